/- A part of the proof: contracts of functions of the program, each for every state of the heaps that it names. -/
import Derived.Test.YtnkfapecbmmpeaaDoorOct2
import Derived.Test.YtnkfapecbmmpeaaDoorPen
set_option linter.unusedSimpArgs false
set_option linter.unusedVariables false
namespace Go.Proofs.YtnkfapecbmmpeaaDoor
open Go Go.Fw
set_option maxRecDepth 100000
set_option maxHeartbeats 1000000

theorem takes3 (l : List Nat) (s : List UInt8) : l.foldl RS.take ⟨s, 3⟩ = ⟨s, 3⟩ := by
  induction l with
  | nil => rfl
  | cons n l ih => exact ih
theorem take_ok {s : List UInt8} {n : Nat} (h : n ≤ s.length) : (⟨s, 0⟩ : RS).take n = ⟨s.drop n, 0⟩ := by simp [RS.take, h]
theorem take_no {s : List UInt8} {n : Nat} (h : ¬ n ≤ s.length) : (⟨s, 0⟩ : RS).take n = ⟨s, 3⟩ := by simp [RS.take, h]
theorem out_ok {s : List UInt8} {n : Nat} (h : n ≤ s.length) : (⟨s, 0⟩ : RS).out n = s.take n := by simp [RS.out, h]
theorem last_takes (l : List Nat) : ∀ s : List UInt8, (l.foldl RS.take ⟨s, 0⟩).last = if s.length < l.sum then 3 else if l.sum < s.length then 2 else 0 := by
  induction l with
  | nil =>
    intro s
    cases s <;> simp [RS.last]
  | cons n l ih =>
    intro s
    by_cases h : n ≤ s.length
    · rw [List.foldl_cons, take_ok h, ih, List.length_drop, List.sum_cons]
      by_cases h1 : s.length < n + l.sum
      · rw [if_pos (by omega), if_pos h1]
      · rw [if_neg (by omega), if_neg h1]
        by_cases h2 : n + l.sum < s.length
        · rw [if_pos (by omega), if_pos h2]
        · rw [if_neg (by omega), if_neg h2]
    · rw [List.foldl_cons, take_no h, takes3, List.sum_cons, if_pos (by omega)]
      simp [RS.last]
theorem natB_one (c : UInt8) : natB [c] = c.toNat := by simp [natB]
def dpE (s : List UInt8) : Int := if s.length < 33 then 3 else if 33 < s.length then 2 else if 6 < (s.getD 32 0).toNat then 4 else 0
def dpO (s : List UInt8) : List UInt8 := if dpE s = 0 then s.take 16 else []
def dpR (s : List UInt8) : List UInt8 := if dpE s = 0 then (s.drop 16).take 16 else []
def dpH (s : List UInt8) : Nat := if dpE s = 0 then (s.getD 32 0).toNat else 0
def dpV (s : List UInt8) : Value := .tuple #[.agg #[Str (dpO s), Str (dpR s), I (dpH s)], I (dpE s)]
theorem dpV_no {s : List UInt8} {e : Int} (h : dpE s = e) (he : e ≠ 0) : Value.tuple #[.agg #[Str [], Str [], I 0], I e] = dpV s := by
  unfold dpV dpO dpR dpH
  rw [h, if_neg he, if_neg he, if_neg he]; rfl
theorem dp_last (s : List UInt8) : ((((⟨s, 0⟩ : RS).take 16).take 16).take 1).last = if s.length < 33 then 3 else if 33 < s.length then 2 else 0 := last_takes [16, 16, 1] s
theorem dp_num {s : List UInt8} (h : ((((⟨s, 0⟩ : RS).take 16).take 16).take 1).last = 0) : s.length = 33 ∧ (⟨s, 0⟩ : RS).out 16 = s.take 16 ∧ ((⟨s, 0⟩ : RS).take 16).out 16 = (s.drop 16).take 16 ∧ natB ((((⟨s, 0⟩ : RS).take 16).take 16).out 1) = (s.getD 32 0).toNat := by
  rw [dp_last] at h
  have hl : s.length = 33 := by
    by_cases h1 : s.length < 33
    · rw [if_pos h1] at h; omega
    · rw [if_neg h1] at h
      by_cases h2 : 33 < s.length
      · rw [if_pos h2] at h; omega
      · omega
  refine ⟨hl, out_ok (by omega), ?_, ?_⟩
  · rw [take_ok (by omega), out_ok (by rw [List.length_drop]; omega)]
  · rw [take_ok (by omega), take_ok (by rw [List.length_drop]; omega), out_ok (by rw [List.length_drop, List.length_drop]; omega), List.drop_drop]
    rw [List.drop_eq_getElem_cons (show 16 + 16 < s.length by omega), List.take_succ_cons, List.take_zero, natB_one]
    rw [List.getD_eq_getElem?_getD, List.getElem?_eq_getElem (show 32 < s.length by omega)]; rfl
theorem dp_e {s : List UInt8} (h : ¬ ((((⟨s, 0⟩ : RS).take 16).take 16).take 1).last = 0) : dpE s = ((((⟨s, 0⟩ : RS).take 16).take 16).take 1).last := by
  rw [dp_last] at h ⊢
  unfold dpE
  by_cases h1 : s.length < 33
  · rw [if_pos h1, if_pos h1]
  · rw [if_neg h1, if_neg h1]
    rw [if_neg h1] at h
    by_cases h2 : 33 < s.length
    · rw [if_pos h2, if_pos h2]
    · rw [if_neg h2] at h; exact absurd rfl h
theorem dp_ok {s : List UInt8} (h : ((((⟨s, 0⟩ : RS).take 16).take 16).take 1).last = 0) (h6 : ¬ 6 < (s.getD 32 0).toNat) : dpE s = 0 := by
  unfold dpE
  have := dp_num h
  rw [if_neg (by omega), if_neg (by omega), if_neg h6]
theorem pubEnc_len {o r : List UInt8} {h : Int} (he : pubErr o r h = 0) : (pubEnc o r h).length = 33 := by
  unfold pubErr at he; unfold pubEnc
  split at he
  · rename_i h1
    rw [if_pos h1]
    have h2 := h1
    unfold pubOk at h2
    simp only [List.length_append, List.length_singleton]
    omega
  · omega
theorem numN_ct (F m : Hp) (g : Nat) (bs : List UInt8) (bad : Int) (hw : Wtr m g bs bad) (hlen : bs.length ≤ 1099511627776) (n : Nat) (hn : n < 18446744073709551616) (size : Nat) (h1 : 1 ≤ size) (h8 : size < 8) :
    Ct Tryd.prog 55 [Ptr g, N64 n, I size] [m, F] (fun _ : Hp => Ptr g) (fun m' => Wtr m' g (wnum (UInt64.ofNat n) size bs bad) (fbad (okN (UInt64.ofNat n) size) 10 bad)) (fun m' => [m', F]) := by
  rw [N_W hn]
  exact num_ct F m g bs bad hw hlen (UInt64.ofNat n) size h1 h8
theorem okN_t {n size : Nat} (hn : n < 18446744073709551616) (h : n < 2 ^ (8 * size)) : okN (UInt64.ofNat n) size = true := by
  unfold okN
  rw [ofNat64 hn]
  exact decide_eq_true h
theorem dp_4 {s : List UInt8} (h : ((((⟨s, 0⟩ : RS).take 16).take 16).take 1).last = 0) (h6 : 6 < (s.getD 32 0).toNat) : dpE s = 4 := by
  unfold dpE
  have := dp_num h
  rw [if_neg (by omega), if_neg (by omega), if_pos h6]

theorem numB_zero (n : UInt64) : Sha.numB n 0 = [] := rfl
theorem numB_cons (n t : Nat) (hn : n < 18446744073709551616) (ht : t < 8) : Sha.numB (UInt64.ofNat n) (t + 1) = UInt8.ofNat (n / 256 ^ t % 256) :: Sha.numB (UInt64.ofNat n) t := by
  unfold Sha.numB
  rw [List.range_succ_eq_map, List.map_cons, List.map_map]
  congr 1
  · rw [ofNat64 hn, Nat.min_eq_left (by omega), show t + 1 - 1 - 0 = t by omega, Nat.pow_mul]
    apply UInt8.toNat_inj.1
    rw [UInt64.toNat_toUInt8, ofNat64 (Nat.lt_of_le_of_lt (Nat.div_le_self _ _) hn), UInt8.toNat_ofNat']; simp
  · apply List.map_congr_left
    intro i hi
    rw [List.mem_range] at hi
    simp only [Function.comp, Nat.succ_eq_add_one, ofNat64 hn]
    rw [show t + 1 - 1 - (i + 1) = t - 1 - i by omega]
theorem pow_le8 (t : Nat) (ht : t ≤ 8) : 256 ^ t ≤ 18446744073709551616 := Nat.le_trans (Nat.pow_le_pow_right (by omega) ht) (by decide)

def noughts : List UInt8 := List.replicate 16 0
theorem natB_foldl (l : List UInt8) : ∀ a : Nat, l.foldl (fun n c => n * 256 + c.toNat) a = a * 256 ^ l.length + natB l := by
  induction l with
  | nil => intro a; simp [natB]
  | cons c l ih =>
    intro a
    unfold natB
    rw [List.foldl_cons, List.foldl_cons, ih, ih (0 * 256 + c.toNat), List.length_cons, Nat.pow_succ, Nat.add_mul, Nat.add_mul, Nat.mul_assoc, Nat.mul_comm 256]
    omega
theorem natB_cons (c : UInt8) (l : List UInt8) : natB (c :: l) = c.toNat * 256 ^ l.length + natB l := by
  rw [natB, List.foldl_cons, natB_foldl, Nat.zero_mul, Nat.zero_add]
theorem natB_numB (n : Nat) (hn : n < 18446744073709551616) : ∀ t, t ≤ 8 → natB (Sha.numB (UInt64.ofNat n) t) = n % 256 ^ t := by
  intro t
  induction t with
  | zero => intro _; rw [numB_zero]; simp [natB, Nat.mod_one]
  | succ t ih =>
    intro ht
    rw [numB_cons n t hn (by omega), natB_cons, Sha.numB_length, ih (by omega), UInt8.toNat_ofNat', show (2 ^ 8 : Nat) = 256 from rfl, Nat.mod_mod, Nat.pow_succ, Nat.mod_mul, Nat.mul_comm, Nat.add_comm]
theorem numB_add (c m t : Nat) (hc : c * 256 ^ t + m < 18446744073709551616) : ∀ k, k ≤ t → k ≤ 8 → Sha.numB (UInt64.ofNat (c * 256 ^ t + m)) k = Sha.numB (UInt64.ofNat m) k := by
  intro k
  induction k with
  | zero => intro _ _; rfl
  | succ k ih =>
    intro hk h8
    rw [numB_cons _ k hc (by omega), numB_cons m k (by omega) (by omega), ih (by omega) (by omega)]
    congr 2
    obtain ⟨d, rfl⟩ : ∃ d, t = k + 1 + d := ⟨t - k - 1, by omega⟩
    have e : c * 256 ^ (k + 1 + d) = 256 ^ k * (c * 256 ^ d * 256) := by rw [Nat.pow_add, Nat.pow_succ]; ac_rfl
    rw [e, Nat.mul_add_div (Nat.pow_pos (by omega)), Nat.mul_comm, Nat.mul_add_mod]
theorem numB_natB : ∀ (l : List UInt8), l.length ≤ 8 → Sha.numB (UInt64.ofNat (natB l)) l.length = l := by
  intro l
  induction l with
  | nil => intro _; rfl
  | cons c l ih =>
    intro hl
    rw [List.length_cons] at hl
    have h1 := natB_lt (c :: l)
    have h2 := pow_le8 (l.length + 1) hl
    have h3 := natB_lt l
    rw [List.length_cons] at h1
    rw [natB_cons] at h1 ⊢
    rw [List.length_cons, numB_cons _ _ (by omega) (by omega), numB_add _ _ _ (by omega) _ (Nat.le_refl _) (by omega), ih (by omega)]
    congr 1
    apply UInt8.toNat_inj.1
    have h4 := c.toNat_lt
    rw [UInt8.toNat_ofNat', Nat.mul_comm, Nat.mul_add_div (Nat.pow_pos (by omega)), Nat.div_eq_of_lt h3]
    simp only [Nat.reducePow] at h4 ⊢
    omega
/-! ## reading texts, one behind the other -/
def tb (s : List UInt8) : List UInt8 := Sha.numB (UInt64.ofNat s.length) 2 ++ s
theorem natB_c (c : UInt8) : natB [c] = c.toNat := by simp [natB]
theorem take_inv {st : RS} {n : Nat} (h : (st.take n).bad = 0) : st.bad = 0 ∧ n ≤ st.s.length ∧ st.take n = ⟨st.s.drop n, 0⟩ ∧ st.out n = st.s.take n := by
  obtain ⟨s, b⟩ := st
  unfold RS.take at h ⊢
  unfold RS.out
  dsimp only at h ⊢
  by_cases hb : b = 0
  · rw [if_pos hb] at h ⊢
    by_cases hn : n ≤ s.length
    · rw [if_pos hn] at h ⊢
      exact ⟨hb, hn, rfl, if_pos ⟨hb, hn⟩⟩
    · rw [if_neg hn] at h; cases h
  · rw [if_neg hb] at h; exact absurd h hb
theorem take_bad {st : RS} {n : Nat} (h : st.bad ≠ 0) : st.take n = st := by unfold RS.take; rw [if_neg h]
theorem out_bad {st : RS} {n : Nat} (h : st.bad ≠ 0) : st.out n = [] := by unfold RS.out; rw [if_neg (fun e => h e.1)]
theorem textR_bad {st : RS} (h : st.bad ≠ 0) : st.textR = st := by
  unfold RS.textR
  rw [out_bad h, if_neg (by decide), take_bad h, take_bad h]
def RS.after : RS → Nat → RS
  | st, 0 => st
  | st, k + 1 => (st.after k).textR
def RS.tx (st : RS) (k : Nat) : List (List UInt8) := (List.range k).map fun j => (st.after j).textS
theorem after_zero (st : RS) : st.after 0 = st := rfl
theorem after_succ (st : RS) (k : Nat) : st.after (k + 1) = (st.after k).textR := rfl
theorem tx_zero (st : RS) : st.tx 0 = [] := rfl
theorem tx_succ (st : RS) (k : Nat) : st.tx (k + 1) = st.tx k ++ [(st.after k).textS] := by unfold RS.tx; rw [List.range_succ, List.map_append]; rfl
theorem tx_length (st : RS) (k : Nat) : (st.tx k).length = k := by unfold RS.tx; rw [List.length_map, List.length_range]
theorem after_front (st : RS) (k : Nat) : st.after (k + 1) = st.textR.after k := by
  induction k with
  | zero => rfl
  | succ k ih => rw [after_succ, ih, after_succ]
theorem tx_front (st : RS) (k : Nat) : st.tx (k + 1) = st.textS :: st.textR.tx k := by
  unfold RS.tx
  rw [List.range_succ_eq_map, List.map_cons, List.map_map]
  refine List.cons_eq_cons.2 ⟨rfl, List.map_congr_left fun j _ => ?_⟩
  show (st.after (j + 1)).textS = _
  rw [after_front]
theorem after_bad {st : RS} (h : st.bad ≠ 0) (k : Nat) : st.after k = st := by
  induction k with
  | zero => rfl
  | succ k ih => rw [after_succ, ih, textR_bad h]
theorem last_zero {st : RS} (h : st.last = 0) : st.bad = 0 ∧ st.s = [] := by
  unfold RS.last at h
  by_cases hb : st.bad = 0
  · rw [if_pos hb] at h
    by_cases hs : st.s = []
    · exact ⟨hb, hs⟩
    · rw [if_neg hs] at h; cases h
  · rw [if_neg hb] at h; exact absurd h hb
theorem text_inv {t : List UInt8} (h : (⟨t, 0⟩ : RS).textR.bad = 0) : ∃ r, t = tb (⟨t, 0⟩ : RS).textS ++ r ∧ (⟨t, 0⟩ : RS).textR = ⟨r, 0⟩ := by
  unfold RS.textR at h ⊢
  unfold RS.textS
  by_cases h1 : 4096 < natB ((⟨t, 0⟩ : RS).out 2)
  · rw [if_pos h1] at h
    unfold RS.form at h
    by_cases h2 : ((⟨t, 0⟩ : RS).take 2).bad = 0
    · rw [if_pos h2] at h; cases h
    · rw [if_neg h2] at h; exact absurd h h2
  · rw [if_neg h1] at h
    rw [if_neg h1, if_neg h1]
    obtain ⟨a1, a2, a3, a4⟩ := take_inv h
    obtain ⟨b1, b2, b3, b4⟩ := take_inv a1
    rw [b3] at a2 a3 a4
    rw [b3]
    refine ⟨_, ?_, a3⟩
    rw [a4]
    dsimp only at a2 b2 b4 ⊢
    have e : ((t.drop 2).take (natB ((⟨t, 0⟩ : RS).out 2))).length = natB ((⟨t, 0⟩ : RS).out 2) := by rw [List.length_take]; omega
    have hn := numB_natB (t.take 2) (by rw [List.length_take]; omega)
    rw [show (t.take 2).length = 2 by rw [List.length_take]; omega] at hn
    unfold tb
    rw [e, b4, hn, List.append_assoc, List.take_append_drop, List.take_append_drop]
theorem text_fwd {x : List UInt8} (r : List UInt8) (h : x.length ≤ 4096) : (⟨tb x ++ r, 0⟩ : RS).textS = x ∧ (⟨tb x ++ r, 0⟩ : RS).textR = ⟨r, 0⟩ := by
  have hN : (Sha.numB (UInt64.ofNat x.length) 2).length = 2 := Sha.numB_length _ _
  have e1 : (⟨tb x ++ r, 0⟩ : RS).out 2 = Sha.numB (UInt64.ofNat x.length) 2 := by
    rw [out_ok (by unfold tb; simp only [List.length_append, hN]; omega)]
    unfold tb
    rw [List.append_assoc, List.take_left' hN]
  have e2 : (⟨tb x ++ r, 0⟩ : RS).take 2 = ⟨x ++ r, 0⟩ := by
    rw [take_ok (by unfold tb; simp only [List.length_append, hN]; omega)]
    unfold tb
    rw [List.append_assoc, List.drop_left' hN]
  have e3 : natB (Sha.numB (UInt64.ofNat x.length) 2) = x.length := by
    rw [natB_numB _ (by omega) 2 (by decide)]; exact Nat.mod_eq_of_lt (by omega)
  unfold RS.textS RS.textR
  rw [e1, e2, e3, if_neg (by omega), if_neg (by omega), out_ok (by rw [List.length_append]; omega), take_ok (by rw [List.length_append]; omega), List.take_left' rfl, List.drop_left' rfl]
  exact ⟨rfl, rfl⟩
theorem all_fwd : ∀ (l : List (List UInt8)) (r : List UInt8), (∀ x ∈ l, x.length ≤ 4096) → (⟨(l.map tb).flatten ++ r, 0⟩ : RS).after l.length = ⟨r, 0⟩ ∧ (⟨(l.map tb).flatten ++ r, 0⟩ : RS).tx l.length = l
  | [], r, _ => ⟨rfl, rfl⟩
  | x :: l, r, h => by
    have h1 := text_fwd ((l.map tb).flatten ++ r) (h x (.head _))
    have h2 := all_fwd l r (fun y hy => h y (.tail _ hy))
    rw [List.map_cons, List.flatten_cons, List.append_assoc, List.length_cons, after_front, tx_front, h1.1, h1.2]
    exact ⟨h2.1, by rw [h2.2]⟩
theorem all_inv : ∀ (k : Nat) (t : List UInt8), ((⟨t, 0⟩ : RS).after k).bad = 0 → ∃ r, t = (((⟨t, 0⟩ : RS).tx k).map tb).flatten ++ r ∧ (⟨t, 0⟩ : RS).after k = ⟨r, 0⟩
  | 0, t, _ => ⟨t, rfl, rfl⟩
  | k + 1, t, h => by
    rw [after_front] at h
    by_cases hb : (⟨t, 0⟩ : RS).textR.bad = 0
    · obtain ⟨r, e1, e2⟩ := text_inv hb
      rw [e2] at h
      obtain ⟨r', e3, e4⟩ := all_inv k r h
      refine ⟨r', ?_, by rw [after_front, e2]; exact e4⟩
      rw [tx_front, e2, List.map_cons, List.flatten_cons, List.append_assoc, ← e3]; exact e1
    · rw [after_bad hb] at h; exact absurd h hb
theorem byte_lt {st : RS} : natB (st.out 1) < 256 := by
  have := natB_lt (st.out 1)
  have h2 := st.out_len 1
  exact Nat.lt_of_lt_of_le this (Nat.le_trans (Nat.pow_le_pow_right (by decide) h2) (by decide))
theorem four_lt {st : RS} : natB (st.out 4) < 4294967296 := by
  have := natB_lt (st.out 4)
  have h2 := st.out_len 4
  exact Nat.lt_of_lt_of_le this (Nat.le_trans (Nat.pow_le_pow_right (by decide) h2) (by decide))
theorem last_in (st : RS) (h : st.bad = 0 ∨ st.bad = 3 ∨ st.bad = 4) : st.last = 0 ∨ st.last = 2 ∨ st.last = 3 ∨ st.last = 4 := by
  unfold RS.last
  by_cases hb : st.bad = 0
  · rw [if_pos hb]
    split <;> simp
  · rw [if_neg hb]; omega
theorem take_in {st : RS} {n : Nat} (h : st.bad = 0 ∨ st.bad = 3 ∨ st.bad = 4) : (st.take n).bad = 0 ∨ (st.take n).bad = 3 ∨ (st.take n).bad = 4 := by
  unfold RS.take
  split
  · split <;> simp
  · exact h
theorem after_in {st : RS} (h : st.bad = 0 ∨ st.bad = 3 ∨ st.bad = 4) : ∀ k, (st.after k).bad = 0 ∨ (st.after k).bad = 3 ∨ (st.after k).bad = 4
  | 0 => h
  | k + 1 => by
    rw [after_succ]
    unfold RS.textR
    split
    · unfold RS.form
      split
      · simp
      · exact take_in (after_in h k)
    · exact take_in (take_in (after_in h k))
theorem one_byte {l : List UInt8} (h : l.length = 1) : [UInt8.ofNat (natB l)] = l := by
  match l, h with
  | [c], _ =>
    rw [natB_c]
    congr 1
    apply UInt8.toNat_inj.1
    rw [UInt8.toNat_ofNat']; exact Nat.mod_eq_of_lt c.toNat_lt

theorem wtrN (g : Nat) : Wtr (blk g [.pointer none, .slice none 0 0, I 0] 104) g [] 0 :=
  ⟨[.pointer none, .slice none 0 0, I 0], fun _ => none, none, 0, none, by funext k; simp only [U]; cases blk g [.pointer none, .slice none 0 0, I 0] 104 k <;> rfl, fun _ => .inr rfl, rfl, ⟨rfl, .inl rfl, rfl, RowQ.nil, .inl rfl⟩, rfl⟩
theorem fbad_tt (e : Int) : fbad true e 0 = 0 := by unfold fbad; rw [if_neg (by simp)]
theorem numG_ct (F m : Hp) (g : Nat) (bs : List UInt8) (hw : Wtr m g bs 0) (hlen : bs.length ≤ 1099511627776) (k size : Nat) (h1 : 1 ≤ size) (h8 : size < 8) (hk : k < 2 ^ (8 * size)) :
    Ct Tryd.prog 55 [Ptr g, N64 k, I size] [m, F] (fun _ : Hp => Ptr g) (fun m' => Wtr m' g (bs ++ Sha.numB (UInt64.ofNat k) size) 0) (fun m' => [m', F]) := by
  have hlt : k < 18446744073709551616 := Nat.lt_of_lt_of_le hk (Nat.le_trans (Nat.pow_le_pow_right (by decide) (show 8 * size ≤ 64 by omega)) (by decide))
  have hn : (UInt64.ofNat k).toNat = k := ofNat64 hlt
  have e : okN (UInt64.ofNat k) size = true := by unfold okN; rw [hn]; exact decide_eq_true hk
  have h := num_ct F m g bs 0 hw hlen (UInt64.ofNat k) size h1 h8
  rw [wnum_ok e, e, fbad_tt] at h
  rw [N_W hlt]; exact h
theorem textG_ct (F m : Hp) (g : Nat) (bs : List UInt8) (hw : Wtr m g bs 0) (hlen : bs.length ≤ 1099511627776) (s : List UInt8) (hs : s.length ≤ 4096) :
    Ct Tryd.prog 96 [Ptr g, Str s] [m, F] (fun _ : Hp => Ptr g) (fun m' => Wtr m' g (bs ++ tb s) 0) (fun m' => [m', F]) := by
  have h := text_ct F m g bs 0 hw hlen s (by omega)
  have e : okT s = true := decide_eq_true hs
  have e2 : wtext s bs 0 = bs ++ tb s := by unfold wtext tb; rw [e, fbad_tt, if_pos rfl, List.append_assoc]
  rw [e2, e, fbad_tt] at h; exact h
theorem fixG_ct (F m : Hp) (g : Nat) (bs : List UInt8) (hw : Wtr m g bs 0) (hlen : bs.length ≤ 1099511627776) (s : List UInt8) (size : Nat) (hs : s.length = size) (h8 : size ≤ 1048576) :
    Ct Tryd.prog 54 [Ptr g, Str s, I size] [m, F] (fun _ : Hp => Ptr g) (fun m' => Wtr m' g (bs ++ s) 0) (fun m' => [m', F]) := by
  have h := fixed_ct F m g bs 0 hw hlen s (by omega) size
  have e : okF s size = true := decide_eq_true hs
  have e2 : wfix s size bs 0 = bs ++ s := by unfold wfix; rw [e, fbad_tt, if_pos rfl]
  rw [e2, e, fbad_tt] at h; exact h
theorem bytesG_ct (F m : Hp) (g : Nat) (bs : List UInt8) (hw : Wtr m g bs 0) (hlen : bs.length ≤ 1099511627776) :
    Ct Tryd.prog 56 [Ptr g] [m, F] (fun _ : Hp => .tuple #[Str bs, I ((0 : Nat) : Int)]) (fun m' => Wtr m' g bs 0) (fun m' => [m', F]) := by
  have h := bytes_ct F m g bs 0 hw (by omega)
  rw [if_pos rfl] at h; exact h
/-! ## a proof in bytes -/
theorem tb_len (s : List UInt8) : (tb s).length = 2 + s.length := by unfold tb; rw [List.length_append, Sha.numB_length]
theorem tbs_len {l : List (List UInt8)} (h : ∀ s ∈ l, s.length ≤ 4096) : (l.map tb).flatten.length ≤ 4098 * l.length := by
  induction l with
  | nil => exact Nat.zero_le _
  | cons a l ih =>
    have h1 := ih (fun s hs => h s (.tail _ hs))
    have h2 := h a (.head _)
    rw [List.map_cons, List.flatten_cons, List.length_append, List.length_cons, tb_len]; omega
theorem tbs_take {l : List (List UInt8)} {k : Nat} (h : k < l.length) : ((l.take (k + 1)).map tb).flatten = ((l.take k).map tb).flatten ++ tb (l.getD k []) := by
  rw [List.take_succ_eq_append_getElem h, List.map_append, List.flatten_append, List.map_cons, List.map_nil, List.flatten_cons, List.flatten_nil, List.append_nil, List.getD_eq_getElem?_getD, List.getElem?_eq_getElem h]; rfl
theorem textS_len (st : RS) : st.textS.length ≤ 4096 := by
  unfold RS.textS
  split
  · exact Nat.zero_le _
  · have := (st.take 2).out_len (natB (st.out 2)); omega
theorem tx_small (st : RS) (k : Nat) : ∀ s ∈ st.tx k, s.length ≤ 4096 := fun s hs => by
  unfold RS.tx at hs
  obtain ⟨j, _, rfl⟩ := List.mem_map.1 hs
  exact textS_len _
theorem numB1b : ∀ k, k < 256 → Sha.numB (UInt64.ofNat k) 1 = [UInt8.ofNat k] := by decide +kernel
def b01 (t : Bool) : UInt8 := if t = true then 1 else 0
def n01 (t : Bool) : Nat := if t = true then 1 else 0
def pfB (bs : List (List UInt8)) (th : Bool) (pk pv : List UInt8) : List UInt8 := [UInt8.ofNat bs.length] ++ (bs.map tb).flatten ++ [b01 th] ++ tb pk ++ tb pv
def pd1 (s : List UInt8) : RS := (⟨s, 0⟩ : RS).take 1
def pdn (s : List UInt8) : Nat := natB ((⟨s, 0⟩ : RS).out 1)
def pd2 (s : List UInt8) : RS := (pd1 s).after (min (pdn s) 128)
def pdb (s : List UInt8) : List (List UInt8) := (pd1 s).tx (min (pdn s) 128)
def pdt (s : List UInt8) : Nat := natB ((pd2 s).out 1)
def pd3 (s : List UInt8) : RS := (pd2 s).take 1
def pd4 (s : List UInt8) : RS := (pd3 s).textR
def pd5 (s : List UInt8) : RS := (pd4 s).textR
def pdE (s : List UInt8) : Int := if (pd5 s).last ≠ 0 then (pd5 s).last else if 128 < pdn s ∨ 1 < pdt s then 4 else 0
def pdB (s : List UInt8) : List (List UInt8) := if pdE s = 0 then pdb s else []
def pdT (s : List UInt8) : Bool := if pdE s = 0 then decide (pdt s = 1) else false
def pdK (s : List UInt8) : List UInt8 := if pdE s = 0 then (pd3 s).textS else []
def pdV (s : List UInt8) : List UInt8 := if pdE s = 0 then (pd4 s).textS else []
theorem pdb_len (s : List UInt8) : (pdb s).length ≤ 128 := by unfold pdb; rw [tx_length]; exact Nat.min_le_right _ _
theorem pdB_len (s : List UInt8) : (pdB s).length ≤ 128 := by
  unfold pdB
  split
  · exact pdb_len s
  · exact Nat.zero_le _
theorem pdB_small (s : List UInt8) : ∀ x ∈ pdB s, x.length ≤ 4096 := by
  unfold pdB
  split
  · exact tx_small _ _
  · simp
theorem pdK_small (s : List UInt8) : (pdK s).length ≤ 4096 := by
  unfold pdK
  split
  · exact textS_len _
  · exact Nat.zero_le _
theorem pdV_small (s : List UInt8) : (pdV s).length ≤ 4096 := by
  unfold pdV
  split
  · exact textS_len _
  · exact Nat.zero_le _
theorem textR_in {st : RS} (h : st.bad = 0 ∨ st.bad = 3 ∨ st.bad = 4) : st.textR.bad = 0 ∨ st.textR.bad = 3 ∨ st.textR.bad = 4 := after_in h 1
theorem pdE_in (s : List UInt8) : pdE s = 0 ∨ pdE s = 2 ∨ pdE s = 3 ∨ pdE s = 4 := by
  unfold pdE
  have := last_in (pd5 s) (textR_in (textR_in (take_in (after_in (take_in (.inl rfl)) _))))
  split
  · omega
  · split <;> omega
theorem pd_fwd {bs : List (List UInt8)} {th : Bool} {pk pv : List UInt8} (hb : bs.length ≤ 128) (h : ∀ s ∈ bs, s.length ≤ 4096) (h1 : pk.length ≤ 4096) (h2 : pv.length ≤ 4096) :
    pdE (pfB bs th pk pv) = 0 ∧ pdB (pfB bs th pk pv) = bs ∧ pdT (pfB bs th pk pv) = th ∧ pdK (pfB bs th pk pv) = pk ∧ pdV (pfB bs th pk pv) = pv := by
  obtain ⟨s, hs⟩ : ∃ s, s = pfB bs th pk pv := ⟨_, rfl⟩
  rw [← hs]
  have e0 : s = UInt8.ofNat bs.length :: ((bs.map tb).flatten ++ (b01 th :: (tb pk ++ (tb pv ++ [])))) := by rw [hs]; unfold pfB; simp
  have hn : pdn s = bs.length := by
    unfold pdn
    rw [e0, out_ok (by rw [List.length_cons]; omega), List.take_succ_cons, List.take_zero, natB_c, UInt8.toNat_ofNat']; omega
  have e1 : pd1 s = ⟨(bs.map tb).flatten ++ (b01 th :: (tb pk ++ (tb pv ++ []))), 0⟩ := by
    unfold pd1
    rw [e0, take_ok (by rw [List.length_cons]; omega)]; rfl
  have hm : min bs.length 128 = bs.length := Nat.min_eq_left hb
  obtain ⟨f1, f2⟩ := all_fwd bs (b01 th :: (tb pk ++ (tb pv ++ []))) h
  have e2 : pd2 s = ⟨b01 th :: (tb pk ++ (tb pv ++ [])), 0⟩ := by unfold pd2; rw [e1, hn, hm, f1]
  have eb : pdb s = bs := by unfold pdb; rw [e1, hn, hm, f2]
  have et : pdt s = n01 th := by
    unfold pdt
    rw [e2, out_ok (by rw [List.length_cons]; omega), List.take_succ_cons, List.take_zero, natB_c]
    unfold b01 n01; cases th <;> rfl
  have e3 : pd3 s = ⟨tb pk ++ (tb pv ++ []), 0⟩ := by
    unfold pd3
    rw [e2, take_ok (by rw [List.length_cons]; omega)]; rfl
  obtain ⟨g1, g2⟩ := text_fwd (tb pv ++ []) h1
  have e4 : pd4 s = ⟨tb pv ++ [], 0⟩ := by unfold pd4; rw [e3, g2]
  obtain ⟨g3, g4⟩ := text_fwd [] h2
  have e5 : pd5 s = ⟨[], 0⟩ := by unfold pd5; rw [e4, g4]
  have hE : pdE s = 0 := by
    unfold pdE
    rw [e5, if_neg (by unfold RS.last; simp), hn, et, if_neg]
    unfold n01
    split <;> omega
  refine ⟨hE, ?_, ?_, ?_, ?_⟩
  · unfold pdB; rw [if_pos hE, eb]
  · unfold pdT; rw [if_pos hE, et]; unfold n01; cases th <;> rfl
  · unfold pdK; rw [if_pos hE, e3, g1]
  · unfold pdV; rw [if_pos hE, e4, g3]
theorem pd_inv {s : List UInt8} (hE : pdE s = 0) : pfB (pdB s) (pdT s) (pdK s) (pdV s) = s := by
  have h := hE
  unfold pdE at h
  split at h
  · rename_i h1; exact absurd h h1
  rename_i h1
  split at h
  · cases h
  rename_i h2
  obtain ⟨hb, hs⟩ := last_zero (Decidable.not_not.1 h1)
  have hb4 : (pd4 s).bad = 0 := by
    by_cases e : (pd4 s).bad = 0
    · exact e
    · unfold pd5 at hb; rw [textR_bad e] at hb; exact absurd hb e
  have hb3 : (pd3 s).bad = 0 := by
    by_cases e : (pd3 s).bad = 0
    · exact e
    · unfold pd4 at hb4; rw [textR_bad e] at hb4; exact absurd hb4 e
  obtain ⟨c1, c2, c3, c4⟩ := take_inv (st := pd2 s) hb3
  have hb1 : (pd1 s).bad = 0 := by
    by_cases e : (pd1 s).bad = 0
    · exact e
    · unfold pd2 at c1; rw [after_bad e] at c1; exact absurd c1 e
  obtain ⟨a1, a2, a3, a4⟩ := take_inv (st := (⟨s, 0⟩ : RS)) hb1
  dsimp only at a2 a3 a4
  have e1 : pd1 s = ⟨s.drop 1, 0⟩ := a3
  have hm : min (pdn s) 128 = pdn s := Nat.min_eq_left (by omega)
  obtain ⟨r, f1, f2⟩ := all_inv (pdn s) (s.drop 1) (by rw [← e1, ← hm]; exact c1)
  have e2 : pd2 s = ⟨r, 0⟩ := by unfold pd2; rw [hm, e1, f2]
  have eb : pdb s = (⟨s.drop 1, 0⟩ : RS).tx (pdn s) := by unfold pdb; rw [hm, e1]
  rw [e2] at c2 c3 c4
  dsimp only at c2 c3 c4
  have e3 : pd3 s = ⟨r.drop 1, 0⟩ := by unfold pd3; rw [e2]; exact c3
  have hb4' : (⟨r.drop 1, 0⟩ : RS).textR.bad = 0 := by rw [← e3]; exact hb4
  obtain ⟨r2, g1, g2⟩ := text_inv hb4'
  have e4 : pd4 s = ⟨r2, 0⟩ := by unfold pd4; rw [e3, g2]
  have hb5' : (⟨r2, 0⟩ : RS).textR.bad = 0 := by rw [← e4]; exact hb
  obtain ⟨r3, g3, g4⟩ := text_inv hb5'
  have e5 : pd5 s = ⟨r3, 0⟩ := by unfold pd5; rw [e4, g4]
  have hr3 : r3 = [] := by rw [e5] at hs; exact hs
  have hlen : (pdb s).length = pdn s := by unfold pdb; rw [tx_length, hm]
  have o1 := one_byte (l := s.take 1) (by rw [List.length_take]; omega)
  have o2 := one_byte (l := r.take 1) (by rw [List.length_take]; omega)
  have hpt : pdt s = natB (r.take 1) := by unfold pdt; rw [e2, c4]
  have hpn : pdn s = natB (s.take 1) := by unfold pdn; rw [a4]
  have h01 : [b01 (decide (pdt s = 1))] = r.take 1 := by
    rw [← o2, ← hpt]
    have h3 : pdt s = 0 ∨ pdt s = 1 := by omega
    rcases h3 with h3 | h3 <;> rw [h3] <;> rfl
  unfold pdB pdT pdK pdV
  rw [if_pos hE, if_pos hE, if_pos hE, if_pos hE]
  unfold pfB
  rw [hlen, h01, hpn, o1, eb, e3, e4]
  have k1 : (s.drop 1) = ((((⟨s.drop 1, 0⟩ : RS).tx (pdn s)).map tb).flatten ++ (r.take 1 ++ (tb (⟨r.drop 1, 0⟩ : RS).textS ++ (tb (⟨r2, 0⟩ : RS).textS)))) := by
    rw [hr3, List.append_nil] at g3
    rw [← g3, ← g1, List.take_append_drop]; exact f1
  have k2 : s = s.take 1 ++ s.drop 1 := (List.take_append_drop 1 s).symm
  conv => rhs; rw [k2, k1]
  simp only [List.append_assoc, hpn]
theorem pd_bad {s : List UInt8} (h : pdE s ≠ 0) : pdB s = [] ∧ pdT s = false ∧ pdK s = [] ∧ pdV s = [] := ⟨if_neg h, if_neg h, if_neg h, if_neg h⟩
theorem pd_good {s : List UInt8} (h : pdE s = 0) : pdB s = pdb s ∧ pdT s = decide (pdt s = 1) ∧ pdK s = (pd3 s).textS ∧ pdV s = (pd4 s).textS := ⟨if_pos h, if_pos h, if_pos h, if_pos h⟩
theorem pdE_last {s : List UInt8} (h : (pd5 s).last ≠ 0) : pdE s = (pd5 s).last := if_pos h
theorem pdE_4 {s : List UInt8} (h : ¬ (pd5 s).last ≠ 0) (h2 : 128 < pdn s ∨ 1 < pdt s) : pdE s = 4 := by unfold pdE; rw [if_neg h, if_pos h2]
theorem pdE_0 {s : List UInt8} (h : ¬ (pd5 s).last ≠ 0) (h2 : ¬ (128 < pdn s ∨ 1 < pdt s)) : pdE s = 0 := by unfold pdE; rw [if_neg h, if_neg h2]

end Go.Proofs.YtnkfapecbmmpeaaDoor
