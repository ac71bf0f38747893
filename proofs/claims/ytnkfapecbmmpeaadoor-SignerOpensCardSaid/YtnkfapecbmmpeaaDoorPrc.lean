/- A part of the proof: contracts of functions of the program, each for every state of the heaps that it names. -/
import Derived.Test.YtnkfapecbmmpeaaDoorOct2
import Derived.Test.YtnkfapecbmmpeaaDoorPen
set_option linter.unusedSimpArgs false
set_option linter.unusedVariables false
namespace Go.Proofs.YtnkfapecbmmpeaaDoor
open Go Go.Fw
set_option maxRecDepth 100000
set_option maxHeartbeats 1000000

theorem take_ok {s : List UInt8} {n : Nat} (h : n ≤ s.length) : (⟨s, 0⟩ : RS).take n = ⟨s.drop n, 0⟩ := by simp [RS.take, h]
theorem out_ok {s : List UInt8} {n : Nat} (h : n ≤ s.length) : (⟨s, 0⟩ : RS).out n = s.take n := by simp [RS.out, h]
def dpE (s : List UInt8) : Int := if s.length < 33 then 3 else if 33 < s.length then 2 else if 6 < (s.getD 32 0).toNat then 4 else 0
def dpO (s : List UInt8) : List UInt8 := if dpE s = 0 then s.take 16 else []
def dpR (s : List UInt8) : List UInt8 := if dpE s = 0 then (s.drop 16).take 16 else []
def dpH (s : List UInt8) : Nat := if dpE s = 0 then (s.getD 32 0).toNat else 0
def dpV (s : List UInt8) : Value := .tuple #[.agg #[Str (dpO s), Str (dpR s), I (dpH s)], I (dpE s)]
theorem numB_zero (n : UInt64) : Sha.numB n 0 = [] := rfl
theorem numB_cons (n t : Nat) (hn : n < 18446744073709551616) (ht : t < 8) : Sha.numB (UInt64.ofNat n) (t + 1) = UInt8.ofNat (n / 256 ^ t % 256) :: Sha.numB (UInt64.ofNat n) t := by
  unfold Sha.numB
  rw [List.range_succ_eq_map, List.map_cons, List.map_map]
  congr 1
  · rw [ofNat64 hn, Nat.min_eq_left (by omega), show t + 1 - 1 - 0 = t by omega, Nat.pow_mul]
    apply UInt8.toNat_inj.1
    rw [UInt64.toNat_toUInt8, ofNat64 (Nat.lt_of_le_of_lt (Nat.div_le_self _ _) hn), UInt8.toNat_ofNat']; simp
  · apply List.map_congr_left
    intro i hi
    rw [List.mem_range] at hi
    simp only [Function.comp, Nat.succ_eq_add_one, ofNat64 hn]
    rw [show t + 1 - 1 - (i + 1) = t - 1 - i by omega]
theorem pow_le8 (t : Nat) (ht : t ≤ 8) : 256 ^ t ≤ 18446744073709551616 := Nat.le_trans (Nat.pow_le_pow_right (by omega) ht) (by decide)

def noughts : List UInt8 := List.replicate 16 0
theorem natB_foldl (l : List UInt8) : ∀ a : Nat, l.foldl (fun n c => n * 256 + c.toNat) a = a * 256 ^ l.length + natB l := by
  induction l with
  | nil => intro a; simp [natB]
  | cons c l ih =>
    intro a
    unfold natB
    rw [List.foldl_cons, List.foldl_cons, ih, ih (0 * 256 + c.toNat), List.length_cons, Nat.pow_succ, Nat.add_mul, Nat.add_mul, Nat.mul_assoc, Nat.mul_comm 256]
    omega
theorem natB_cons (c : UInt8) (l : List UInt8) : natB (c :: l) = c.toNat * 256 ^ l.length + natB l := by
  rw [natB, List.foldl_cons, natB_foldl, Nat.zero_mul, Nat.zero_add]
theorem natB_numB (n : Nat) (hn : n < 18446744073709551616) : ∀ t, t ≤ 8 → natB (Sha.numB (UInt64.ofNat n) t) = n % 256 ^ t := by
  intro t
  induction t with
  | zero => intro _; rw [numB_zero]; simp [natB, Nat.mod_one]
  | succ t ih =>
    intro ht
    rw [numB_cons n t hn (by omega), natB_cons, Sha.numB_length, ih (by omega), UInt8.toNat_ofNat', show (2 ^ 8 : Nat) = 256 from rfl, Nat.mod_mod, Nat.pow_succ, Nat.mod_mul, Nat.mul_comm, Nat.add_comm]
theorem numB_add (c m t : Nat) (hc : c * 256 ^ t + m < 18446744073709551616) : ∀ k, k ≤ t → k ≤ 8 → Sha.numB (UInt64.ofNat (c * 256 ^ t + m)) k = Sha.numB (UInt64.ofNat m) k := by
  intro k
  induction k with
  | zero => intro _ _; rfl
  | succ k ih =>
    intro hk h8
    rw [numB_cons _ k hc (by omega), numB_cons m k (by omega) (by omega), ih (by omega) (by omega)]
    congr 2
    obtain ⟨d, rfl⟩ : ∃ d, t = k + 1 + d := ⟨t - k - 1, by omega⟩
    have e : c * 256 ^ (k + 1 + d) = 256 ^ k * (c * 256 ^ d * 256) := by rw [Nat.pow_add, Nat.pow_succ]; ac_rfl
    rw [e, Nat.mul_add_div (Nat.pow_pos (by omega)), Nat.mul_comm, Nat.mul_add_mod]
theorem numB_natB : ∀ (l : List UInt8), l.length ≤ 8 → Sha.numB (UInt64.ofNat (natB l)) l.length = l := by
  intro l
  induction l with
  | nil => intro _; rfl
  | cons c l ih =>
    intro hl
    rw [List.length_cons] at hl
    have h1 := natB_lt (c :: l)
    have h2 := pow_le8 (l.length + 1) hl
    have h3 := natB_lt l
    rw [List.length_cons] at h1
    rw [natB_cons] at h1 ⊢
    rw [List.length_cons, numB_cons _ _ (by omega) (by omega), numB_add _ _ _ (by omega) _ (Nat.le_refl _) (by omega), ih (by omega)]
    congr 1
    apply UInt8.toNat_inj.1
    have h4 := c.toNat_lt
    rw [UInt8.toNat_ofNat', Nat.mul_comm, Nat.mul_add_div (Nat.pow_pos (by omega)), Nat.div_eq_of_lt h3]
    simp only [Nat.reducePow] at h4 ⊢
    omega
/-! ## reading texts, one behind the other -/
def tb (s : List UInt8) : List UInt8 := Sha.numB (UInt64.ofNat s.length) 2 ++ s
theorem natB_c (c : UInt8) : natB [c] = c.toNat := by simp [natB]
theorem take_inv {st : RS} {n : Nat} (h : (st.take n).bad = 0) : st.bad = 0 ∧ n ≤ st.s.length ∧ st.take n = ⟨st.s.drop n, 0⟩ ∧ st.out n = st.s.take n := by
  obtain ⟨s, b⟩ := st
  unfold RS.take at h ⊢
  unfold RS.out
  dsimp only at h ⊢
  by_cases hb : b = 0
  · rw [if_pos hb] at h ⊢
    by_cases hn : n ≤ s.length
    · rw [if_pos hn] at h ⊢
      exact ⟨hb, hn, rfl, if_pos ⟨hb, hn⟩⟩
    · rw [if_neg hn] at h; cases h
  · rw [if_neg hb] at h; exact absurd h hb
theorem take_bad {st : RS} {n : Nat} (h : st.bad ≠ 0) : st.take n = st := by unfold RS.take; rw [if_neg h]
theorem out_bad {st : RS} {n : Nat} (h : st.bad ≠ 0) : st.out n = [] := by unfold RS.out; rw [if_neg (fun e => h e.1)]
theorem textR_bad {st : RS} (h : st.bad ≠ 0) : st.textR = st := by
  unfold RS.textR
  rw [out_bad h, if_neg (by decide), take_bad h, take_bad h]
def RS.after : RS → Nat → RS
  | st, 0 => st
  | st, k + 1 => (st.after k).textR
def RS.tx (st : RS) (k : Nat) : List (List UInt8) := (List.range k).map fun j => (st.after j).textS
theorem after_succ (st : RS) (k : Nat) : st.after (k + 1) = (st.after k).textR := rfl
theorem after_front (st : RS) (k : Nat) : st.after (k + 1) = st.textR.after k := by
  induction k with
  | zero => rfl
  | succ k ih => rw [after_succ, ih, after_succ]
theorem tx_front (st : RS) (k : Nat) : st.tx (k + 1) = st.textS :: st.textR.tx k := by
  unfold RS.tx
  rw [List.range_succ_eq_map, List.map_cons, List.map_map]
  refine List.cons_eq_cons.2 ⟨rfl, List.map_congr_left fun j _ => ?_⟩
  show (st.after (j + 1)).textS = _
  rw [after_front]
theorem after_bad {st : RS} (h : st.bad ≠ 0) (k : Nat) : st.after k = st := by
  induction k with
  | zero => rfl
  | succ k ih => rw [after_succ, ih, textR_bad h]
theorem text_inv {t : List UInt8} (h : (⟨t, 0⟩ : RS).textR.bad = 0) : ∃ r, t = tb (⟨t, 0⟩ : RS).textS ++ r ∧ (⟨t, 0⟩ : RS).textR = ⟨r, 0⟩ := by
  unfold RS.textR at h ⊢
  unfold RS.textS
  by_cases h1 : 4096 < natB ((⟨t, 0⟩ : RS).out 2)
  · rw [if_pos h1] at h
    unfold RS.form at h
    by_cases h2 : ((⟨t, 0⟩ : RS).take 2).bad = 0
    · rw [if_pos h2] at h; cases h
    · rw [if_neg h2] at h; exact absurd h h2
  · rw [if_neg h1] at h
    rw [if_neg h1, if_neg h1]
    obtain ⟨a1, a2, a3, a4⟩ := take_inv h
    obtain ⟨b1, b2, b3, b4⟩ := take_inv a1
    rw [b3] at a2 a3 a4
    rw [b3]
    refine ⟨_, ?_, a3⟩
    rw [a4]
    dsimp only at a2 b2 b4 ⊢
    have e : ((t.drop 2).take (natB ((⟨t, 0⟩ : RS).out 2))).length = natB ((⟨t, 0⟩ : RS).out 2) := by rw [List.length_take]; omega
    have hn := numB_natB (t.take 2) (by rw [List.length_take]; omega)
    rw [show (t.take 2).length = 2 by rw [List.length_take]; omega] at hn
    unfold tb
    rw [e, b4, hn, List.append_assoc, List.take_append_drop, List.take_append_drop]
theorem text_fwd {x : List UInt8} (r : List UInt8) (h : x.length ≤ 4096) : (⟨tb x ++ r, 0⟩ : RS).textS = x ∧ (⟨tb x ++ r, 0⟩ : RS).textR = ⟨r, 0⟩ := by
  have hN : (Sha.numB (UInt64.ofNat x.length) 2).length = 2 := Sha.numB_length _ _
  have e1 : (⟨tb x ++ r, 0⟩ : RS).out 2 = Sha.numB (UInt64.ofNat x.length) 2 := by
    rw [out_ok (by unfold tb; simp only [List.length_append, hN]; omega)]
    unfold tb
    rw [List.append_assoc, List.take_left' hN]
  have e2 : (⟨tb x ++ r, 0⟩ : RS).take 2 = ⟨x ++ r, 0⟩ := by
    rw [take_ok (by unfold tb; simp only [List.length_append, hN]; omega)]
    unfold tb
    rw [List.append_assoc, List.drop_left' hN]
  have e3 : natB (Sha.numB (UInt64.ofNat x.length) 2) = x.length := by
    rw [natB_numB _ (by omega) 2 (by decide)]; exact Nat.mod_eq_of_lt (by omega)
  unfold RS.textS RS.textR
  rw [e1, e2, e3, if_neg (by omega), if_neg (by omega), out_ok (by rw [List.length_append]; omega), take_ok (by rw [List.length_append]; omega), List.take_left' rfl, List.drop_left' rfl]
  exact ⟨rfl, rfl⟩
theorem all_fwd : ∀ (l : List (List UInt8)) (r : List UInt8), (∀ x ∈ l, x.length ≤ 4096) → (⟨(l.map tb).flatten ++ r, 0⟩ : RS).after l.length = ⟨r, 0⟩ ∧ (⟨(l.map tb).flatten ++ r, 0⟩ : RS).tx l.length = l
  | [], r, _ => ⟨rfl, rfl⟩
  | x :: l, r, h => by
    have h1 := text_fwd ((l.map tb).flatten ++ r) (h x (.head _))
    have h2 := all_fwd l r (fun y hy => h y (.tail _ hy))
    rw [List.map_cons, List.flatten_cons, List.append_assoc, List.length_cons, after_front, tx_front, h1.1, h1.2]
    exact ⟨h2.1, by rw [h2.2]⟩
theorem all_inv : ∀ (k : Nat) (t : List UInt8), ((⟨t, 0⟩ : RS).after k).bad = 0 → ∃ r, t = (((⟨t, 0⟩ : RS).tx k).map tb).flatten ++ r ∧ (⟨t, 0⟩ : RS).after k = ⟨r, 0⟩
  | 0, t, _ => ⟨t, rfl, rfl⟩
  | k + 1, t, h => by
    rw [after_front] at h
    by_cases hb : (⟨t, 0⟩ : RS).textR.bad = 0
    · obtain ⟨r, e1, e2⟩ := text_inv hb
      rw [e2] at h
      obtain ⟨r', e3, e4⟩ := all_inv k r h
      refine ⟨r', ?_, by rw [after_front, e2]; exact e4⟩
      rw [tx_front, e2, List.map_cons, List.flatten_cons, List.append_assoc, ← e3]; exact e1
    · rw [after_bad hb] at h; exact absurd h hb
theorem take_in {st : RS} {n : Nat} (h : st.bad = 0 ∨ st.bad = 3 ∨ st.bad = 4) : (st.take n).bad = 0 ∨ (st.take n).bad = 3 ∨ (st.take n).bad = 4 := by
  unfold RS.take
  split
  · split <;> simp
  · exact h
theorem after_in {st : RS} (h : st.bad = 0 ∨ st.bad = 3 ∨ st.bad = 4) : ∀ k, (st.after k).bad = 0 ∨ (st.after k).bad = 3 ∨ (st.after k).bad = 4
  | 0 => h
  | k + 1 => by
    rw [after_succ]
    unfold RS.textR
    split
    · unfold RS.form
      split
      · simp
      · exact take_in (after_in h k)
    · exact take_in (take_in (after_in h k))
theorem tb_len (s : List UInt8) : (tb s).length = 2 + s.length := by unfold tb; rw [List.length_append, Sha.numB_length]

theorem wtrN (g : Nat) : Wtr (blk g [.pointer none, .slice none 0 0, I 0] 104) g [] 0 :=
  ⟨[.pointer none, .slice none 0 0, I 0], fun _ => none, none, 0, none, by funext k; simp only [U]; cases blk g [.pointer none, .slice none 0 0, I 0] 104 k <;> rfl, fun _ => .inr rfl, rfl, ⟨rfl, .inl rfl, rfl, RowQ.nil, .inl rfl⟩, rfl⟩
theorem fbad_tt (e : Int) : fbad true e 0 = 0 := by unfold fbad; rw [if_neg (by simp)]
theorem numG_ct (F m : Hp) (g : Nat) (bs : List UInt8) (hw : Wtr m g bs 0) (hlen : bs.length ≤ 1099511627776) (k size : Nat) (h1 : 1 ≤ size) (h8 : size < 8) (hk : k < 2 ^ (8 * size)) :
    Ct Tryd.prog 55 [Ptr g, N64 k, I size] [m, F] (fun _ : Hp => Ptr g) (fun m' => Wtr m' g (bs ++ Sha.numB (UInt64.ofNat k) size) 0) (fun m' => [m', F]) := by
  have hlt : k < 18446744073709551616 := Nat.lt_of_lt_of_le hk (Nat.le_trans (Nat.pow_le_pow_right (by decide) (show 8 * size ≤ 64 by omega)) (by decide))
  have hn : (UInt64.ofNat k).toNat = k := ofNat64 hlt
  have e : okN (UInt64.ofNat k) size = true := by unfold okN; rw [hn]; exact decide_eq_true hk
  have h := num_ct F m g bs 0 hw hlen (UInt64.ofNat k) size h1 h8
  rw [wnum_ok e, e, fbad_tt] at h
  rw [N_W hlt]; exact h
theorem bytesG_ct (F m : Hp) (g : Nat) (bs : List UInt8) (hw : Wtr m g bs 0) (hlen : bs.length ≤ 1099511627776) :
    Ct Tryd.prog 56 [Ptr g] [m, F] (fun _ : Hp => .tuple #[Str bs, I ((0 : Nat) : Int)]) (fun m' => Wtr m' g bs 0) (fun m' => [m', F]) := by
  have h := bytes_ct F m g bs 0 hw (by omega)
  rw [if_pos rfl] at h; exact h
/-! ## a proof in bytes -/
def b01 (t : Bool) : UInt8 := if t = true then 1 else 0
def n01 (t : Bool) : Nat := if t = true then 1 else 0
def pfB (bs : List (List UInt8)) (th : Bool) (pk pv : List UInt8) : List UInt8 := [UInt8.ofNat bs.length] ++ (bs.map tb).flatten ++ [b01 th] ++ tb pk ++ tb pv
def pd1 (s : List UInt8) : RS := (⟨s, 0⟩ : RS).take 1
def pdn (s : List UInt8) : Nat := natB ((⟨s, 0⟩ : RS).out 1)
def pd2 (s : List UInt8) : RS := (pd1 s).after (min (pdn s) 128)
def pdb (s : List UInt8) : List (List UInt8) := (pd1 s).tx (min (pdn s) 128)
def pdt (s : List UInt8) : Nat := natB ((pd2 s).out 1)
def pd3 (s : List UInt8) : RS := (pd2 s).take 1
def pd4 (s : List UInt8) : RS := (pd3 s).textR
def pd5 (s : List UInt8) : RS := (pd4 s).textR
def pdE (s : List UInt8) : Int := if (pd5 s).last ≠ 0 then (pd5 s).last else if 128 < pdn s ∨ 1 < pdt s then 4 else 0
def pdB (s : List UInt8) : List (List UInt8) := if pdE s = 0 then pdb s else []
def pdT (s : List UInt8) : Bool := if pdE s = 0 then decide (pdt s = 1) else false
def pdK (s : List UInt8) : List UInt8 := if pdE s = 0 then (pd3 s).textS else []
def pdV (s : List UInt8) : List UInt8 := if pdE s = 0 then (pd4 s).textS else []
end Go.Proofs.YtnkfapecbmmpeaaDoor
