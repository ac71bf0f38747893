/- A part of the proof: contracts of functions of the program, each for every state of the heaps that it names. -/
import Derived.Test.YtnkfapecbmmpeaaGreatDoorPub
set_option linter.unusedSimpArgs false
set_option linter.unusedVariables false
namespace Go.Proofs.YtnkfapecbmmpeaaGreatDoor
open Go Go.Fw
set_option maxRecDepth 100000
set_option maxHeartbeats 1000000
/-! ## reading texts, one behind the other -/
def tb (s : List UInt8) : List UInt8 := Sha.numB (UInt64.ofNat s.length) 2 ++ s
theorem natB_c (c : UInt8) : natB [c] = c.toNat := by simp [natB]
theorem take_inv {st : RS} {n : Nat} (h : (st.take n).bad = 0) : st.bad = 0 ∧ n ≤ st.s.length ∧ st.take n = ⟨st.s.drop n, 0⟩ ∧ st.out n = st.s.take n := by
  obtain ⟨s, b⟩ := st
  unfold RS.take at h ⊢
  unfold RS.out
  dsimp only at h ⊢
  by_cases hb : b = 0
  · rw [if_pos hb] at h ⊢
    by_cases hn : n ≤ s.length
    · rw [if_pos hn] at h ⊢
      exact ⟨hb, hn, rfl, if_pos ⟨hb, hn⟩⟩
    · rw [if_neg hn] at h; cases h
  · rw [if_neg hb] at h; exact absurd h hb
theorem take_bad {st : RS} {n : Nat} (h : st.bad ≠ 0) : st.take n = st := by unfold RS.take; rw [if_neg h]
theorem out_bad {st : RS} {n : Nat} (h : st.bad ≠ 0) : st.out n = [] := by unfold RS.out; rw [if_neg (fun e => h e.1)]
theorem textR_bad {st : RS} (h : st.bad ≠ 0) : st.textR = st := by
  unfold RS.textR
  rw [out_bad h, if_neg (by decide), take_bad h, take_bad h]
def RS.after : RS → Nat → RS
  | st, 0 => st
  | st, k + 1 => (st.after k).textR
def RS.tx (st : RS) (k : Nat) : List (List UInt8) := (List.range k).map fun j => (st.after j).textS
theorem after_zero (st : RS) : st.after 0 = st := rfl
theorem after_succ (st : RS) (k : Nat) : st.after (k + 1) = (st.after k).textR := rfl
theorem tx_zero (st : RS) : st.tx 0 = [] := rfl
theorem tx_succ (st : RS) (k : Nat) : st.tx (k + 1) = st.tx k ++ [(st.after k).textS] := by unfold RS.tx; rw [List.range_succ, List.map_append]; rfl
theorem tx_length (st : RS) (k : Nat) : (st.tx k).length = k := by unfold RS.tx; rw [List.length_map, List.length_range]
theorem after_front (st : RS) (k : Nat) : st.after (k + 1) = st.textR.after k := by
  induction k with
  | zero => rfl
  | succ k ih => rw [after_succ, ih, after_succ]
theorem tx_front (st : RS) (k : Nat) : st.tx (k + 1) = st.textS :: st.textR.tx k := by
  unfold RS.tx
  rw [List.range_succ_eq_map, List.map_cons, List.map_map]
  refine List.cons_eq_cons.2 ⟨rfl, List.map_congr_left fun j _ => ?_⟩
  show (st.after (j + 1)).textS = _
  rw [after_front]
theorem after_bad {st : RS} (h : st.bad ≠ 0) (k : Nat) : st.after k = st := by
  induction k with
  | zero => rfl
  | succ k ih => rw [after_succ, ih, textR_bad h]
theorem last_zero {st : RS} (h : st.last = 0) : st.bad = 0 ∧ st.s = [] := by
  unfold RS.last at h
  by_cases hb : st.bad = 0
  · rw [if_pos hb] at h
    by_cases hs : st.s = []
    · exact ⟨hb, hs⟩
    · rw [if_neg hs] at h; cases h
  · rw [if_neg hb] at h; exact absurd h hb
theorem text_inv {t : List UInt8} (h : (⟨t, 0⟩ : RS).textR.bad = 0) : ∃ r, t = tb (⟨t, 0⟩ : RS).textS ++ r ∧ (⟨t, 0⟩ : RS).textR = ⟨r, 0⟩ := by
  unfold RS.textR at h ⊢
  unfold RS.textS
  by_cases h1 : 4096 < natB ((⟨t, 0⟩ : RS).out 2)
  · rw [if_pos h1] at h
    unfold RS.form at h
    by_cases h2 : ((⟨t, 0⟩ : RS).take 2).bad = 0
    · rw [if_pos h2] at h; cases h
    · rw [if_neg h2] at h; exact absurd h h2
  · rw [if_neg h1] at h
    rw [if_neg h1, if_neg h1]
    obtain ⟨a1, a2, a3, a4⟩ := take_inv h
    obtain ⟨b1, b2, b3, b4⟩ := take_inv a1
    rw [b3] at a2 a3 a4
    rw [b3]
    refine ⟨_, ?_, a3⟩
    rw [a4]
    dsimp only at a2 b2 b4 ⊢
    have e : ((t.drop 2).take (natB ((⟨t, 0⟩ : RS).out 2))).length = natB ((⟨t, 0⟩ : RS).out 2) := by rw [List.length_take]; omega
    have hn := numB_natB (t.take 2) (by rw [List.length_take]; omega)
    rw [show (t.take 2).length = 2 by rw [List.length_take]; omega] at hn
    unfold tb
    rw [e, b4, hn, List.append_assoc, List.take_append_drop, List.take_append_drop]
theorem text_fwd {x : List UInt8} (r : List UInt8) (h : x.length ≤ 4096) : (⟨tb x ++ r, 0⟩ : RS).textS = x ∧ (⟨tb x ++ r, 0⟩ : RS).textR = ⟨r, 0⟩ := by
  have hN : (Sha.numB (UInt64.ofNat x.length) 2).length = 2 := Sha.numB_length _ _
  have e1 : (⟨tb x ++ r, 0⟩ : RS).out 2 = Sha.numB (UInt64.ofNat x.length) 2 := by
    rw [out_ok (by unfold tb; simp only [List.length_append, hN]; omega)]
    unfold tb
    rw [List.append_assoc, List.take_left' hN]
  have e2 : (⟨tb x ++ r, 0⟩ : RS).take 2 = ⟨x ++ r, 0⟩ := by
    rw [take_ok (by unfold tb; simp only [List.length_append, hN]; omega)]
    unfold tb
    rw [List.append_assoc, List.drop_left' hN]
  have e3 : natB (Sha.numB (UInt64.ofNat x.length) 2) = x.length := by
    rw [natB_numB _ (by omega) 2 (by decide)]; exact Nat.mod_eq_of_lt (by omega)
  unfold RS.textS RS.textR
  rw [e1, e2, e3, if_neg (by omega), if_neg (by omega), out_ok (by rw [List.length_append]; omega), take_ok (by rw [List.length_append]; omega), List.take_left' rfl, List.drop_left' rfl]
  exact ⟨rfl, rfl⟩
theorem all_fwd : ∀ (l : List (List UInt8)) (r : List UInt8), (∀ x ∈ l, x.length ≤ 4096) → (⟨(l.map tb).flatten ++ r, 0⟩ : RS).after l.length = ⟨r, 0⟩ ∧ (⟨(l.map tb).flatten ++ r, 0⟩ : RS).tx l.length = l
  | [], r, _ => ⟨rfl, rfl⟩
  | x :: l, r, h => by
    have h1 := text_fwd ((l.map tb).flatten ++ r) (h x (.head _))
    have h2 := all_fwd l r (fun y hy => h y (.tail _ hy))
    rw [List.map_cons, List.flatten_cons, List.append_assoc, List.length_cons, after_front, tx_front, h1.1, h1.2]
    exact ⟨h2.1, by rw [h2.2]⟩
theorem all_inv : ∀ (k : Nat) (t : List UInt8), ((⟨t, 0⟩ : RS).after k).bad = 0 → ∃ r, t = (((⟨t, 0⟩ : RS).tx k).map tb).flatten ++ r ∧ (⟨t, 0⟩ : RS).after k = ⟨r, 0⟩
  | 0, t, _ => ⟨t, rfl, rfl⟩
  | k + 1, t, h => by
    rw [after_front] at h
    by_cases hb : (⟨t, 0⟩ : RS).textR.bad = 0
    · obtain ⟨r, e1, e2⟩ := text_inv hb
      rw [e2] at h
      obtain ⟨r', e3, e4⟩ := all_inv k r h
      refine ⟨r', ?_, by rw [after_front, e2]; exact e4⟩
      rw [tx_front, e2, List.map_cons, List.flatten_cons, List.append_assoc, ← e3]; exact e1
    · rw [after_bad hb] at h; exact absurd h hb
theorem byte_lt {st : RS} : natB (st.out 1) < 256 := by
  have := natB_lt (st.out 1)
  have h2 := st.out_len 1
  exact Nat.lt_of_lt_of_le this (Nat.le_trans (Nat.pow_le_pow_right (by decide) h2) (by decide))
theorem four_lt {st : RS} : natB (st.out 4) < 4294967296 := by
  have := natB_lt (st.out 4)
  have h2 := st.out_len 4
  exact Nat.lt_of_lt_of_le this (Nat.le_trans (Nat.pow_le_pow_right (by decide) h2) (by decide))
theorem last_in (st : RS) (h : st.bad = 0 ∨ st.bad = 3 ∨ st.bad = 4) : st.last = 0 ∨ st.last = 2 ∨ st.last = 3 ∨ st.last = 4 := by
  unfold RS.last
  by_cases hb : st.bad = 0
  · rw [if_pos hb]
    split <;> simp
  · rw [if_neg hb]; omega
theorem take_in {st : RS} {n : Nat} (h : st.bad = 0 ∨ st.bad = 3 ∨ st.bad = 4) : (st.take n).bad = 0 ∨ (st.take n).bad = 3 ∨ (st.take n).bad = 4 := by
  unfold RS.take
  split
  · split <;> simp
  · exact h
theorem after_in {st : RS} (h : st.bad = 0 ∨ st.bad = 3 ∨ st.bad = 4) : ∀ k, (st.after k).bad = 0 ∨ (st.after k).bad = 3 ∨ (st.after k).bad = 4
  | 0 => h
  | k + 1 => by
    rw [after_succ]
    unfold RS.textR
    split
    · unfold RS.form
      split
      · simp
      · exact take_in (after_in h k)
    · exact take_in (take_in (after_in h k))
theorem one_byte {l : List UInt8} (h : l.length = 1) : [UInt8.ofNat (natB l)] = l := by
  match l, h with
  | [c], _ =>
    rw [natB_c]
    congr 1
    apply UInt8.toNat_inj.1
    rw [UInt8.toNat_ofNat']; exact Nat.mod_eq_of_lt c.toNat_lt
theorem tb_len (s : List UInt8) : (tb s).length = 2 + s.length := by unfold tb; rw [List.length_append, Sha.numB_length]

theorem wtrN (g : Nat) : Wtr (blk g [.pointer none, .slice none 0 0, I 0] 63) g [] 0 :=
  ⟨[.pointer none, .slice none 0 0, I 0], fun _ => none, none, 0, none, by funext k; simp only [U]; cases blk g [.pointer none, .slice none 0 0, I 0] 63 k <;> rfl, fun _ => .inr rfl, rfl, ⟨rfl, .inl rfl, rfl, RowQ.nil, .inl rfl⟩, rfl⟩
theorem fbad_tt (e : Int) : fbad true e 0 = 0 := by unfold fbad; rw [if_neg (by simp)]
theorem numG_ct (F m : Hp) (g : Nat) (bs : List UInt8) (hw : Wtr m g bs 0) (hlen : bs.length ≤ 1099511627776) (k size : Nat) (h1 : 1 ≤ size) (h8 : size < 8) (hk : k < 2 ^ (8 * size)) :
    Ct Tryz.prog 40 [Ptr g, N64 k, I size] [m, F] (fun _ : Hp => Ptr g) (fun m' => Wtr m' g (bs ++ Sha.numB (UInt64.ofNat k) size) 0) (fun m' => [m', F]) := by
  have hlt : k < 18446744073709551616 := Nat.lt_of_lt_of_le hk (Nat.le_trans (Nat.pow_le_pow_right (by decide) (show 8 * size ≤ 64 by omega)) (by decide))
  have hn : (UInt64.ofNat k).toNat = k := ofNat64 hlt
  have e : okN (UInt64.ofNat k) size = true := by unfold okN; rw [hn]; exact decide_eq_true hk
  have h := num_ct F m g bs 0 hw hlen (UInt64.ofNat k) size h1 h8
  rw [wnum_ok e, e, fbad_tt] at h
  rw [N_W hlt]; exact h
theorem textG_ct (F m : Hp) (g : Nat) (bs : List UInt8) (hw : Wtr m g bs 0) (hlen : bs.length ≤ 1099511627776) (s : List UInt8) (hs : s.length ≤ 4096) :
    Ct Tryz.prog 21 [Ptr g, Str s] [m, F] (fun _ : Hp => Ptr g) (fun m' => Wtr m' g (bs ++ tb s) 0) (fun m' => [m', F]) := by
  have h := text_ct F m g bs 0 hw hlen s (by omega)
  have e : okT s = true := decide_eq_true hs
  have e2 : wtext s bs 0 = bs ++ tb s := by unfold wtext tb; rw [e, fbad_tt, if_pos rfl, List.append_assoc]
  rw [e2, e, fbad_tt] at h; exact h
theorem fixG_ct (F m : Hp) (g : Nat) (bs : List UInt8) (hw : Wtr m g bs 0) (hlen : bs.length ≤ 1099511627776) (s : List UInt8) (size : Nat) (hs : s.length = size) (h8 : size ≤ 1048576) :
    Ct Tryz.prog 41 [Ptr g, Str s, I size] [m, F] (fun _ : Hp => Ptr g) (fun m' => Wtr m' g (bs ++ s) 0) (fun m' => [m', F]) := by
  have h := fixed_ct F m g bs 0 hw hlen s (by omega) size
  have e : okF s size = true := decide_eq_true hs
  have e2 : wfix s size bs 0 = bs ++ s := by unfold wfix; rw [e, fbad_tt, if_pos rfl]
  rw [e2, e, fbad_tt] at h; exact h
theorem bytesG_ct (F m : Hp) (g : Nat) (bs : List UInt8) (hw : Wtr m g bs 0) (hlen : bs.length ≤ 1099511627776) :
    Ct Tryz.prog 22 [Ptr g] [m, F] (fun _ : Hp => .tuple #[Str bs, I ((0 : Nat) : Int)]) (fun m' => Wtr m' g bs 0) (fun m' => [m', F]) := by
  have h := bytes_ct F m g bs 0 hw (by omega)
  rw [if_pos rfl] at h; exact h

end Go.Proofs.YtnkfapecbmmpeaaGreatDoor
