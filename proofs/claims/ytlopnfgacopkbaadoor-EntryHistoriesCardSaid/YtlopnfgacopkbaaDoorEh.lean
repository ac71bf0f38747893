/- A part of the proof: contracts of functions of the program, each for every state of the heaps that it names. -/
import Derived.Test.YtlopnfgacopkbaaDoorEnt
import Derived.Test.YtlopnfgacopkbaaDoorSN
set_option linter.unusedSimpArgs false
set_option linter.unusedVariables false
namespace Go.Proofs.YtlopnfgacopkbaaDoor
open Go Go.Fw
set_option maxRecDepth 100000
set_option maxHeartbeats 1000000
theorem ent23 : Enters Tryd.prog 23 := Enters.of Tryd.func23 rfl (by kernel_rfl)

attribute [local irreducible] SN.tagN Sha.tagged
namespace Eh
def PL : List (List UInt8) := [[0, 0, 0, 0, 0, 0, 0, 0, 0, 0, 0, 0, 0, 0, 0, 0], [0, 141, 187, 209, 69, 107, 87, 179, 211, 28, 222, 38, 27, 141, 167, 2], [154, 165, 2, 180, 166, 30, 230, 179, 149, 23, 53, 89, 62, 128, 195, 95], [53, 33, 55, 63, 207, 18, 135, 173, 243, 207, 45, 214, 148, 23, 177, 208], [81, 204, 157, 225, 156, 170, 48, 182, 247, 237, 156, 4, 237, 180, 96, 22], [25, 195, 41, 74, 250, 102, 190, 110, 244, 245, 105, 122, 148, 199, 183, 194], [126, 131, 47, 38, 201, 207, 55, 127, 153, 110, 55, 130, 197, 65, 47, 106], [194, 139, 12, 186, 160, 14, 59, 162, 118, 92, 153, 69, 193, 102, 23, 246], [94, 240, 131, 174, 201, 70, 40, 232, 86, 245, 193, 118, 220, 217, 77, 136], [87, 230, 148, 243, 197, 43, 105, 180, 15, 36, 187, 160, 133, 218, 223, 120], [19, 27, 214, 41, 184, 116, 15, 58, 213, 244, 160, 65, 73, 205, 0, 231], [172, 53, 127, 92, 215, 103, 182, 52, 236, 49, 191, 139, 98, 87, 34, 72], [37, 7, 204, 186, 253, 86, 33, 43, 149, 95, 217, 232, 169, 181, 167, 6], [0, 74, 124, 61, 52, 240, 192, 152, 89, 241, 42, 201, 126, 24, 101, 166], [223, 5, 139, 122, 32, 160, 185, 5, 93, 134, 34, 104, 242, 9, 177, 63], [216, 174, 131, 248, 83, 42, 138, 241, 152, 179, 250, 102, 135, 19, 129, 1], [195, 250, 124, 58, 196, 190, 226, 222, 101, 184, 26, 40, 139, 184, 104, 22]]
def QL : List (List UInt8) := [[76, 190, 102, 252, 3, 138, 191, 46, 204, 184, 61, 50, 185, 160, 22, 77], [224, 1, 62, 184, 193, 146, 94, 254, 240, 66, 199, 73, 93, 242, 186, 174], [196, 48, 84, 152, 175, 58, 175, 151, 72, 209, 100, 15, 137, 183, 235, 183], [88, 151, 116, 161, 178, 65, 82, 193, 205, 22, 21, 234, 164, 177, 121, 79], [29, 100, 76, 14, 128, 81, 88, 220, 50, 242, 171, 106, 122, 46, 37, 66], [143, 187, 55, 101, 51, 160, 195, 227, 148, 250, 29, 188, 229, 76, 7, 210], [84, 137, 161, 35, 252, 221, 116, 163, 40, 230, 138, 64, 122, 164, 73, 88], [124, 234, 5, 21, 177, 79, 191, 176, 27, 227, 6, 168, 16, 52, 170, 94], [224, 3, 125, 8, 111, 103, 171, 233, 25, 235, 65, 236, 251, 182, 253, 35], [5, 249, 32, 250, 240, 15, 113, 160, 171, 162, 160, 90, 253, 149, 1, 16], [151, 53, 63, 138, 113, 0, 20, 49, 156, 3, 238, 97, 239, 145, 247, 71], [67, 185, 70, 233, 96, 100, 205, 231, 229, 26, 172, 238, 104, 107, 122, 134], [163, 92, 26, 144, 9, 255, 65, 173, 24, 237, 47, 112, 188, 186, 85, 207], [239, 55, 102, 124, 65, 127, 16, 83, 230, 5, 189, 156, 47, 17, 206, 68], [85, 182, 144, 41, 30, 25, 104, 96, 168, 183, 156, 179, 208, 118, 70, 59]]
def EN (i h : Nat) : List Nat := [0, 0, 0, i + 1] ++ List.replicate 16 i ++ List.replicate 16 0 ++ [h] ++ (PL.getD i []).map UInt8.toNat
theorem allV : ∀ i, i < 16 → SN.tagN 12 [EN i 2] = (PL.getD (i + 1) []).map UInt8.toNat := by decide +kernel
theorem allB : ∀ i, i < 15 → SN.tagN 12 [EN i 3] = (QL.getD i []).map UInt8.toNat := by decide +kernel
theorem encV : ∀ i, i < 16 → (enEnc (i + 1) (List.replicate 16 (UInt8.ofNat i)) noughts 2 (PL.getD i [])).map UInt8.toNat = EN i 2 := by decide +kernel
theorem encB : ∀ i, i < 15 → (enEnc (i + 1) (List.replicate 16 (UInt8.ofNat i)) noughts 3 (PL.getD i [])).map UInt8.toNat = EN i 3 := by decide +kernel
theorem errV : ∀ i, i < 16 → enErr (i + 1) (List.replicate 16 (UInt8.ofNat i)) noughts 2 (PL.getD i []) = 0 := by decide +kernel
theorem errB : ∀ i, i < 15 → enErr (i + 1) (List.replicate 16 (UInt8.ofNat i)) noughts 3 (PL.getD i []) = 0 := by decide +kernel
theorem PL_len : ∀ i, i < 17 → (PL.getD i []).length = 16 := by decide +kernel
theorem QL_ne : ∀ i, i < 15 → QL.getD i [] ≠ PL.getD (i + 1) [] := by decide +kernel
theorem PL_z : ∀ i, i < 17 → PL.getD i [] ≠ List.replicate 16 122 := by decide +kernel
theorem tag12 (e : List UInt8) (n : List Nat) (r : List UInt8) (hl : e.length = 53) (he : e.map UInt8.toNat = n) (h : SN.tagN 12 [n] = r.map UInt8.toNat) : Sha.tagged 12 [e] = r := by
  have h1 := SN.tagN_eq 12 [e] (by simp only [List.flatten_cons, List.flatten_nil, List.append_nil, List.length_cons, List.length_nil, hl]; decide)
  have h2 : SN.tagN 12 [e.map UInt8.toNat] = (Sha.tagged 12 [e]).map UInt8.toNat := h1
  rw [he] at h2
  exact SN.of_toNat (h2.symm.trans h)
theorem valV (i : Nat) (hi : i < 16) : enVal (i + 1) (List.replicate 16 (UInt8.ofNat i)) noughts 2 (PL.getD i []) = PL.getD (i + 1) [] := by
  have he := errV i hi
  unfold enVal
  rw [if_pos he]
  exact tag12 _ _ _ (enEnc_len he) (encV i hi) (allV i hi)
theorem valB (i : Nat) (hi : i < 15) : enVal (i + 1) (List.replicate 16 (UInt8.ofNat i)) noughts 3 (PL.getD i []) = QL.getD i [] := by
  have he := errB i hi
  unfold enVal
  rw [if_pos he]
  exact tag12 _ _ _ (enEnc_len he) (encB i hi) (allB i hi)
end Eh

namespace Eh
/-- the entry of place i -/
def ent (i : Nat) : En := ⟨i + 1, List.replicate 16 (UInt8.ofNat i), noughts, 2, PL.getD i []⟩
def ents (n : Nat) : List En := (List.range n).map ent
theorem ents_len (n : Nat) : (ents n).length = n := by simp [ents]
theorem ents_get {n i : Nat} (h : i < n) : (ents n).getD i noEn = ent i := by
  unfold ents
  rw [List.getD_eq_getElem?_getD, List.getElem?_map, List.getElem?_range h]; rfl
theorem ents_succ (n : Nat) : ents (n + 1) = ents n ++ [ent n] := by simp [ents, List.range_succ]
theorem ent_val {i : Nat} (h : i < 16) : (ent i).val = (ent (i + 1)).p := valV i h
theorem ent_good {i : Nat} (h : i < 16) : (ent i).good := ⟨by show i + 1 < _; omega, by rw [ent, List.length_replicate]; decide, by rw [ent, noughts_len]; decide, by rw [ent, PL_len i (by omega)]; decide⟩
theorem ents_good {n : Nat} (h : n ≤ 16) : ∀ x ∈ ents n, x.good := fun x hx => by
  simp only [ents, List.mem_map, List.mem_range] at hx
  obtain ⟨i, hi, rfl⟩ := hx
  exact ent_good (by omega)
theorem val_ne {i : Nat} (h : i < 16) : (ent i).val ≠ [] := by
  rw [ent_val h]
  exact ne_of_len (PL_len (i + 1) (by omega))
theorem ent_next {i : Nat} (h : i < 16) : (ent i).next (ent (i + 1)) = 0 := next_ok (by show i + 1 ≠ _; omega) rfl (val_ne h) (ent_val h).symm
theorem next_13 {x y : En} (h : y.v ≠ x.v + 1) : x.next y = 13 := if_pos (.inr h)
theorem next_15 {x y : En} (h1 : x.v ≠ 18446744073709551615) (h2 : y.v = x.v + 1) (h : y.p ≠ x.val) : x.next y = 15 := by
  unfold En.next
  rw [if_neg (by omega), if_pos (.inr h)]
theorem chain_zero {l : List En} (h : ∀ i, i + 1 < l.length → (l.getD i noEn).next (l.getD (i + 1) noEn) = 0) : ∀ k, k < l.length → En.chain (l.drop (l.length - 1 - k)) = 0 := by
  intro k
  induction k with
  | zero => intro hk; exact chain_end (by omega)
  | succ k ih =>
    intro hk
    rw [chain_step (by omega), h _ (by omega), if_neg (fun e => e rfl), show l.length - 1 - (k + 1) + 1 = l.length - 1 - k by omega]
    exact ih (by omega)
theorem chain_at {l : List En} {j : Nat} {e : Int} (hj : j + 1 < l.length) (h0 : ∀ i, i < j → (l.getD i noEn).next (l.getD (i + 1) noEn) = 0) (he : (l.getD j noEn).next (l.getD (j + 1) noEn) = e) (hne : e ≠ 0) : ∀ k, k ≤ j → En.chain (l.drop (j - k)) = e := by
  intro k
  induction k with
  | zero => intro _; rw [Nat.sub_zero, chain_step hj, he, if_pos hne]
  | succ k ih =>
    intro hk
    rw [chain_step (by omega), h0 _ (by omega), if_neg (fun e => e rfl), show j - (k + 1) + 1 = j - k by omega]
    exact ih (by omega)
theorem hist_zero {l : List En} (hn : 0 < l.length) (h1 : (l.getD 0 noEn).v = 1) (h2 : (l.getD 0 noEn).p = noughts) (h : ∀ i, i + 1 < l.length → (l.getD i noEn).next (l.getD (i + 1) noEn) = 0) : En.hist l = 0 := by
  have := chain_zero h (l.length - 1) (by omega)
  rw [Nat.sub_self, List.drop_zero] at this
  rw [hist_cons hn, if_neg (by omega), if_neg (fun e => e h2), this]
theorem hist_at {l : List En} {j : Nat} {e : Int} (hj : j + 1 < l.length) (h1 : (l.getD 0 noEn).v = 1) (h2 : (l.getD 0 noEn).p = noughts) (h0 : ∀ i, i < j → (l.getD i noEn).next (l.getD (i + 1) noEn) = 0) (he : (l.getD j noEn).next (l.getD (j + 1) noEn) = e) (hne : e ≠ 0) : En.hist l = e := by
  have := chain_at hj h0 he hne j (Nat.le_refl _)
  rw [Nat.sub_self, List.drop_zero] at this
  rw [hist_cons (by omega), if_neg (by omega), if_neg (fun e => e h2), this]
theorem ents_hist {n : Nat} (h1 : 1 ≤ n) (h2 : n ≤ 16) : En.hist (ents n) = 0 := by
  have hl := ents_len n
  refine hist_zero (by omega) (by rw [ents_get (by omega)]; rfl) (by rw [ents_get (by omega)]; rfl) (fun i hi => ?_)
  rw [ents_get (by omega), ents_get (by omega)]
  exact ent_next (by omega)
theorem set_get {n k i : Nat} {x : En} (hi : i < n) : ((ents n).set k x).getD i noEn = if i = k then x else ent i := by
  rw [List.getD_eq_getElem?_getD, List.getElem?_set, ents_len]
  by_cases h : i = k
  · subst h; rw [if_pos rfl, if_pos hi, if_pos rfl]; rfl
  · rw [if_neg (fun e => h e.symm), if_neg h, ← List.getD_eq_getElem?_getD, ents_get hi]
theorem set_len {n k : Nat} {x : En} : ((ents n).set k x).length = n := by rw [List.length_set, ents_len]
/-- one that is of another height -/
theorem bad0 {n k : Nat} (h2 : n ≤ 16) (hk : k < n) : (En.hist ((ents n).set k { ent k with h := 3 }) = 0) = (k = n - 1) := by
  have hl : ((ents n).set k { ent k with h := 3 }).length = n := set_len
  have f1 : (((ents n).set k { ent k with h := 3 }).getD 0 noEn).v = 1 := by rw [set_get (by omega)]; split <;> (try subst_vars) <;> rfl
  have f2 : (((ents n).set k { ent k with h := 3 }).getD 0 noEn).p = noughts := by rw [set_get (by omega)]; split <;> (try subst_vars) <;> rfl
  have f3 : ∀ i, i < k → (((ents n).set k { ent k with h := 3 }).getD i noEn).next (((ents n).set k { ent k with h := 3 }).getD (i + 1) noEn) = 0 := fun i hi => by
    rw [set_get (by omega), set_get (by omega), if_neg (by omega)]
    split
    · rename_i e
      exact next_ok (by show i + 1 ≠ _; omega) (by show k + 1 = i + 1 + 1; omega) (val_ne (by omega)) (by rw [ent_val (by omega), e])
    · exact ent_next (by omega)
  apply propext
  constructor
  · intro h0
    apply Classical.byContradiction
    intro hne
    have : En.hist ((ents n).set k { ent k with h := 3 }) = 15 := by
      refine hist_at (j := k) (by omega) f1 f2 f3 ?_ (by decide)
      rw [set_get (by omega), set_get (by omega), if_pos rfl, if_neg (by omega)]
      refine next_15 (by show k + 1 ≠ _; omega) rfl ?_
      show PL.getD (k + 1) [] ≠ enVal (k + 1) (List.replicate 16 (UInt8.ofNat k)) noughts 3 (PL.getD k [])
      rw [valB k (by omega)]
      exact fun e => QL_ne k (by omega) e.symm
    rw [this] at h0; omega
  · intro e
    exact hist_zero (by omega) f1 f2 (fun i hi => f3 i (by omega))
/-- one of another version -/
theorem bad1 {n k : Nat} (h2 : n ≤ 16) (hk : k < n) : En.hist ((ents n).set k { ent k with v := k + 6 }) = 13 := by
  have hl : ((ents n).set k { ent k with v := k + 6 }).length = n := set_len
  cases k with
  | zero =>
    rw [hist_cons (by omega), set_get (by omega), if_pos rfl, if_pos (show 0 + 6 ≠ 1 by decide)]
  | succ k =>
    refine hist_at (j := k) (by omega) (by rw [set_get (by omega), if_neg (by omega)]; rfl) (by rw [set_get (by omega), if_neg (by omega)]; rfl) (fun i hi => ?_) ?_ (by decide)
    · rw [set_get (by omega), set_get (by omega), if_neg (by omega), if_neg (by omega)]
      exact ent_next (by omega)
    · rw [set_get (by omega), set_get (by omega), if_neg (by omega), if_pos rfl]
      exact next_13 (by show k + 1 + 6 ≠ k + 1 + 1; omega)
/-- one that follows another one -/
theorem bad2 {n k : Nat} (h2 : n ≤ 16) (hk : k < n) : En.hist ((ents n).set k { ent k with p := List.replicate 16 122 }) = 15 := by
  have hl : ((ents n).set k { ent k with p := List.replicate 16 122 }).length = n := set_len
  cases k with
  | zero =>
    rw [hist_cons (by omega), set_get (by omega), if_pos rfl, if_neg (fun e => e rfl), if_pos (show List.replicate 16 122 ≠ noughts by decide)]
  | succ k =>
    refine hist_at (j := k) (by omega) (by rw [set_get (by omega), if_neg (by omega)]; rfl) (by rw [set_get (by omega), if_neg (by omega)]; rfl) (fun i hi => ?_) ?_ (by decide)
    · rw [set_get (by omega), set_get (by omega), if_neg (by omega), if_neg (by omega)]
      exact ent_next (by omega)
    · rw [set_get (by omega), set_get (by omega), if_neg (by omega), if_pos rfl]
      refine next_15 (by show k + 1 ≠ _; omega) rfl ?_
      rw [ent_val (by omega)]
      exact fun e => PL_z (k + 1) (by omega) e.symm
theorem cut_get {n k i : Nat} (hk : k < n) (hi : i + 1 < n) : ((ents n).take k ++ (ents n).drop (k + 1)).getD i noEn = if i < k then ent i else ent (i + 1) := by
  rw [List.getD_eq_getElem?_getD, List.getElem?_append, List.length_take, ents_len, Nat.min_eq_left (by omega)]
  by_cases h : i < k
  · rw [if_pos h, if_pos h, List.getElem?_take_of_lt h, ← List.getD_eq_getElem?_getD, ents_get (by omega)]
  · rw [if_neg h, if_neg h, List.getElem?_drop, ← List.getD_eq_getElem?_getD, ents_get (by omega)]
    congr 1; omega
theorem cut_len {n k : Nat} (hk : k < n) : ((ents n).take k ++ (ents n).drop (k + 1)).length = n - 1 := by
  rw [List.length_append, List.length_take, List.length_drop, ents_len]; omega
/-- one isn't there -/
theorem bad3 {n k : Nat} (h2 : n ≤ 16) (hk : k < n) : (En.hist ((ents n).take k ++ (ents n).drop (k + 1)) = 0) = (k = n - 1 ∧ 1 < n) := by
  have hl := cut_len hk
  apply propext
  constructor
  · intro h0
    apply Classical.byContradiction
    intro hne
    by_cases h1 : n = 1
    · subst h1
      obtain rfl : k = 0 := by omega
      exact absurd h0 (by decide)
    · have : En.hist ((ents n).take k ++ (ents n).drop (k + 1)) = 13 := by
        cases k with
        | zero => rw [hist_cons (by omega), cut_get hk (by omega), if_neg (show ¬ 0 < 0 by omega), if_pos (show (ent (0 + 1)).v ≠ 1 by show (0 + 1 + 1 : Nat) ≠ 1; decide)]
        | succ k =>
          refine hist_at (j := k) (by omega) (by rw [cut_get hk (by omega), if_pos (by omega)]; rfl) (by rw [cut_get hk (by omega), if_pos (by omega)]; rfl) (fun i hi => ?_) ?_ (by decide)
          · rw [cut_get hk (by omega), cut_get hk (by omega), if_pos (by omega), if_pos (by omega)]
            exact ent_next (by omega)
          · rw [cut_get hk (by omega), cut_get hk (by omega), if_pos (by omega), if_neg (by omega)]
            exact next_13 (by show k + 1 + 1 + 1 ≠ k + 1 + 1; omega)
      rw [this] at h0; omega
  · rintro ⟨e, h1⟩
    refine hist_zero (by omega) (by rw [cut_get hk (by omega), if_pos (by omega)]; rfl) (by rw [cut_get hk (by omega), if_pos (by omega)]; rfl) (fun i hi => ?_)
    rw [cut_get hk (by omega), cut_get hk (by omega), if_pos (by omega), if_pos (by omega)]
    exact ent_next (by omega)
/-- one comes twice -/
theorem bad4 {n k : Nat} (h2 : n ≤ 16) (hk : k < n) : En.hist (ents n ++ [ent k]) = 13 := by
  have hl : (ents n ++ [ent k]).length = n + 1 := by rw [List.length_append, ents_len]; rfl
  have g1 : ∀ i, i < n → (ents n ++ [ent k]).getD i noEn = ent i := fun i hi => by
    rw [List.getD_eq_getElem?_getD, List.getElem?_append_left (by rw [ents_len]; exact hi), ← List.getD_eq_getElem?_getD, ents_get hi]
  have g2 : (ents n ++ [ent k]).getD n noEn = ent k := by
    rw [List.getD_eq_getElem?_getD, List.getElem?_append_right (by rw [ents_len]; exact Nat.le_refl _), ents_len, Nat.sub_self]; rfl
  refine hist_at (j := n - 1) (by omega) (by rw [g1 0 (by omega)]; rfl) (by rw [g1 0 (by omega)]; rfl) (fun i hi => ?_) ?_ (by decide)
  · rw [g1 i (by omega), g1 (i + 1) (by omega)]
    exact ent_next (by omega)
  · rw [g1 (n - 1) (by omega), show n - 1 + 1 = n by omega, g2]
    exact next_13 (by show k + 1 ≠ n - 1 + 1 + 1; omega)
end Eh

def entsV (l : List En) : List (List Value) := l.map En.cells
theorem entsV_len (l : List En) : (entsV l).length = l.length := by simp [entsV]
theorem entsV_app (a b : List En) : entsV (a ++ b) = entsV a ++ entsV b := by simp [entsV]
theorem entsV_take (l : List En) (k : Nat) : (entsV l).take k = entsV (l.take k) := by simp [entsV]
theorem entsV_drop (l : List En) (k : Nat) : (entsV l).drop k = entsV (l.drop k) := by simp [entsV]
theorem entsV_one (l : List En) : (entsV l).all (fun x => x.all Value.oneCell') = true := by simp [entsV, En.cells, Value.oneCell']
theorem entsV_get {l : List En} {j : Nat} (h : j < l.length) : (entsV l)[j]? = some (l.getD j noEn).cells := cellsGet h
theorem entsV_set (l : List En) (k : Nat) (x : En) : (entsV l).set k x.cells = entsV (l.set k x) := by unfold entsV; rw [List.map_set]
theorem and15 (a : UInt8) : (a &&& 15).toNat < 16 := by
  have : (a &&& 15).toNat ≤ 15 := by rw [UInt8.toNat_and]; exact Nat.and_le_right
  omega
theorem set_good {l : List En} {k : Nat} {x : En} (h : ∀ y ∈ l, y.good) (hx : x.good) : ∀ y ∈ l.set k x, y.good := fun y hy => by
  rcases List.mem_or_eq_of_mem_set hy with h1 | rfl
  · exact h y h1
  · exact hx
theorem cut_good {l : List En} {k j : Nat} (h : ∀ y ∈ l, y.good) : ∀ y ∈ l.take k ++ l.drop j, y.good := fun y hy => by
  rcases List.mem_append.1 hy with h1 | h1
  · exact h y (List.mem_of_mem_take h1)
  · exact h y (List.mem_of_mem_drop h1)

theorem entryHistories_ct (F : Hp) (hK : Cells F ⟨0, 0, none⟩ (Sha.K.map W32)) (a0 a1 a2 : UInt8) :
    Ct Tryd.prog 4 [B8 a0, B8 a1, B8 a2] [F] (fun _ : Unit => .bool true) (fun _ => True) (fun _ => [F]) := by
  obtain ⟨n, hn⟩ : ∃ n, n = 1 + (a0 &&& 15).toNat := ⟨_, rfl⟩
  have hn16 := and15 a0
  obtain ⟨k, hk⟩ : ∃ k, k = a1.toNat % n := ⟨_, rfl⟩
  have hkn : k < n := by rw [hk]; exact Nat.mod_lt _ (by omega)
  have hk2 : (k : Int) = (a1.toNat : Int) % (n : Int) := by rw [hk, Int.natCast_emod]
  refine Ct.walk Tryd.func4 rfl Tryd.ntmps4 rfl (fun w0 => ?_)
  change J _ [(0, _), (1, _), (2, _)] _ _ _
  refine J.seq (fun K1 hK1 => ?_)
  refine J.region ?_
  refine J.y (op_assign rfl rfl) rfl rfl rfl ?_
  refine J.nil ?_
  refine J.then_n (J.k hK1 ?_)
  refine J.keepE [(0, _), (1, _), (2, _)] ⟨rfl, rfl, rfl, trivial⟩ ?_
  refine J.seq (fun K2 hK2 => ?_)
  refine J.seq (fun K3 hK3 => ?_)
  refine J.region ?_
  refine J.e (op_call rfl rfl ent23 (Ct.use0 (fun F' hF => speaks17_ct F' (hK.mono (hF _ (by simp)))))) rfl rfl rfl ?_
  intro g14 _
  refine J.y ((op_not rfl rfl).as (v' := .bool false) rfl) rfl rfl rfl ?_
  refine J.nil ?_
  refine J.then_n (J.k hK3 ?_)
  refine J.keepE [(0, _), (1, _), (2, _), (15, _)] ⟨rfl, rfl, rfl, rfl, trivial⟩ ?_
  refine J.condF rfl rfl ?_
  refine J.skip ?_
  refine J.then_n (J.k hK2 ?_)
  refine J.keepE [(0, _), (1, _), (2, _)] ⟨rfl, rfl, rfl, trivial⟩ ?_
  refine J.seq (fun K4 hK4 => ?_)
  refine J.region ?_
  refine J.y (op_move rfl rfl) rfl rfl rfl ?_
  refine J.y (op_and8 (b := 15) rfl rfl rfl) rfl rfl rfl ?_
  refine J.y (op_cv_u8_i64 rfl rfl Tryd.underlying5 Tryd.underlying3) rfl rfl rfl ?_
  refine J.y ((op_add rfl rfl rfl (by omega)).as (v' := I (n : Int)) (congrArg I (by omega))) rfl rfl rfl ?_
  refine J.y (op_assign rfl rfl) rfl rfl rfl ?_
  refine J.nil ?_
  refine J.then_n (J.k hK4 ?_)
  refine J.keepE [(1, _), (2, _), (7, _)] ⟨rfl, rfl, rfl, trivial⟩ ?_
  refine J.seq (fun K5 hK5 => ?_)
  refine J.region ?_
  refine J.y (op_assign rfl rfl) rfl rfl rfl ?_
  refine J.nil ?_
  refine J.then_n (J.k hK5 ?_)
  refine J.keepE [(1, _), (2, _), (7, _), (8, _)] ⟨rfl, rfl, rfl, rfl, trivial⟩ ?_
  refine J.seq (fun K6 hK6 => ?_)
  refine J.region ?_
  refine J.y (op_assign rfl rfl) rfl rfl rfl ?_
  refine J.nil ?_
  refine J.then_n (J.k hK6 ?_)
  refine J.keepE [(1, _), (2, _), (7, _), (8, _), (9, _)] ⟨rfl, rfl, rfl, rfl, rfl, trivial⟩ ?_
  refine J.seq (fun K7 hK7 => ?_)
  refine J.seq (fun K8 hK8 => ?_)
  refine J.addEmpty [0, 1] [F, (fun _ => none)] rfl (by decide) ?_
  refine J.region ?_
  refine J.y (op_assign rfl rfl) rfl rfl rfl ?_
  refine J.nil ?_
  refine J.then_n (J.k hK8 ?_)
  refine J.keepE [(1, _), (2, _), (7, _), (8, _), (9, _), (10, _)] ⟨rfl, rfl, rfl, rfl, rfl, rfl, trivial⟩ ?_
  refine J.block ?_
  refine J.loop (X := Nat × Option Addr × Nat × Hp) (fun x => [(1, B8 a1), (2, B8 a2), (7, I n), (8, .slice x.2.1 x.1 x.2.2.1), (9, Str (Eh.PL.getD x.1 [])), (10, I x.1)]) (fun x => [F, x.2.2.2]) (fun x => x.1 ≤ n ∧ Row x.2.2.2 50 5 x.2.1 x.1 x.2.2.1 (entsV (Eh.ents x.1))) (fun x => n - x.1) (0, none, 0, fun _ => none) (⟨Nat.zero_le _, RowQ.nil⟩) ⟨rfl, rfl, rfl, rfl, rfl, rfl, trivial⟩ (fun _ h => h) ?_
  rintro ⟨t, A8, c8, m⟩ ⟨ht, hrow⟩ I0 hI0
  dsimp only at ht hrow ⊢
  refine J.seq (fun K9 hK9 => ?_)
  refine J.seq (fun K10 hK10 => ?_)
  refine J.region ?_
  refine J.y (op_move rfl rfl) rfl rfl rfl ?_
  refine J.y (op_move rfl rfl) rfl rfl rfl ?_
  refine J.y (op_lss rfl rfl rfl) rfl rfl rfl ?_
  refine J.nil ?_
  refine J.then_n (J.k hK10 ?_)
  refine J.keepE [(1, _), (2, _), (7, _), (8, _), (9, _), (10, _), (22, _)] ⟨rfl, rfl, rfl, rfl, rfl, rfl, rfl, trivial⟩ ?_
  refine J.ite rfl (fun h22 => ?_) (fun h22 => ?_)
  ·
    refine J.skip ?_
    refine J.then_n (J.k hK9 ?_)
    refine J.keepE [(1, _), (2, _), (7, _), (8, _), (9, _), (10, _)] ⟨rfl, rfl, rfl, rfl, rfl, rfl, trivial⟩ ?_
    refine J.seq (fun K11 hK11 => ?_)
    refine J.block ?_
    refine J.seq (fun K12 hK12 => ?_)
    refine J.region ?_
    refine J.y (op_move rfl rfl) rfl rfl rfl ?_
    refine J.y ((op_add rfl rfl rfl (by first | omega | (refine ⟨?_, ?_⟩ <;> omega))).as (v' := I ((t + 1 : Nat) : Int)) (congrArg I (by omega))) rfl rfl rfl ?_
    refine J.y ((op_cv_i64_u64 rfl rfl Tryd.underlying3 Tryd.underlying47 (m := t + 1) (by omega)).as (v' := N64 (t + 1)) (N_W (by omega)).symm) rfl rfl rfl ?_
    refine J.y (op_move rfl rfl) rfl rfl rfl ?_
    refine J.y (op_cv_i64_u8 rfl rfl Tryd.underlying3 Tryd.underlying5) rfl rfl rfl ?_
    refine J.e (op_call rfl rfl ent24 (Ct.use0 (fun F' hF => key17_ct F' (UInt8.ofNat t)))) rfl rfl rfl ?_
    intro g30 _
    refine J.y (op_move rfl rfl) rfl rfl rfl ?_
    refine J.y (op_buildStruct (l := [(0, .tmp 27), (1, .tmp 30), (2, .tmp 31)]) (vs := [N64 (t + 1), .agg #[Str (List.replicate 16 (UInt8.ofNat t)), Str noughts, I 2], Str (Eh.PL.getD t [])]) (places := [(0, 1), (1, 3), (4, 1)]) (r := [N64 (t + 1), Str (List.replicate 16 (UInt8.ofNat t)), Str noughts, I 2, Str (Eh.PL.getD t [])]) rfl rfl rfl Tryd.underlying50 Tryd.zeroValue50 (fun _ => by kernel_rfl) rfl) rfl rfl rfl ?_
    refine J.e (op_alloc rfl Tryd.zeroValue50 rfl) rfl rfl rfl ?_
    intro g11 _
    change J _ _ _ [F, m, blk g11 _ 50] _
    refine J.s (op_storeAll (l := [N64 0, Str [], Str [], I 0, Str []]) (i := 2) (vs := [N64 (t + 1), Str (List.replicate 16 (UInt8.ofNat t)), Str noughts, I 2, Str (Eh.PL.getD t [])]) rfl rfl rfl rfl rfl Tryd.sizeOf50 rfl rfl) rfl rfl (fun _ _ => ?_)
    change J _ _ _ [F, m, blk g11 [N64 (t + 1), Str (List.replicate 16 (UInt8.ofNat t)), Str noughts, I 2, Str (Eh.PL.getD t [])] 50] _
    refine J.nil ?_
    refine J.then_n (J.k hK12 ?_)
    refine J.keepE [(1, _), (2, _), (7, _), (8, _), (10, _), (11, _)] ⟨rfl, rfl, rfl, rfl, rfl, rfl, trivial⟩ ?_
    refine J.draw [blk g11 [N64 (t + 1), Str (List.replicate 16 (UInt8.ofNat t)), Str noughts, I 2, Str (Eh.PL.getD t [])] 50] [] (.y 0 (.y 1 (.y 4 (.e 2 (.e 3 (.e 5 (.y 6 (.y 7 .nil)))))))) Tryd.wide (by decide +kernel) (by simp) ?_
    refine J.dy rfl (op_move rfl rfl) rfl rfl rfl rfl ?_
    refine J.dy rfl (op_loadBA 0 rfl rfl rfl Tryd.isAgg50 Tryd.sizeOf50 rfl) rfl rfl rfl rfl ?_
    refine J.dy rfl (op_loadBA 0 rfl rfl rfl Tryd.isAgg50 Tryd.sizeOf50 rfl) rfl rfl rfl rfl ?_
    refine J.de rfl (op_buildSlice (l := [.tmp 34]) (xs := [[N64 (t + 1), Str (List.replicate 16 (UInt8.ofNat t)), Str noughts, I 2, Str (Eh.PL.getD t [])]]) rfl rfl rfl rfl Tryd.underlying46 el50 rfl (by decide) (by decide) (by simp [En.cells])) rfl rfl rfl (by simp) ?_
    intro g35 _
    change J _ _ _ [F, m, blk g11 [N64 (t + 1), Str (List.replicate 16 (UInt8.ofNat t)), Str noughts, I 2, Str (Eh.PL.getD t [])] 50, blk g35 [N64 (t + 1), Str (List.replicate 16 (UInt8.ofNat t)), Str noughts, I 2, Str (Eh.PL.getD t [])] 50] _
    refine J.de rfl (op_append (i := 1) (m2 := blk g35 [N64 (t + 1), Str (List.replicate 16 (UInt8.ofNat t)), Str noughts, I 2, Str (Eh.PL.getD t [])] 50) (xs := entsV (Eh.ents t)) (ys := [Eh.ent t].map En.cells) rfl rfl rfl Tryd.underlying46 Tryd.underlying46 el50 rfl hrow (by simp) (row_blk (q := True) (xs := [Eh.ent t].map En.cells) rfl (by simp [En.cells])).sl (entsV_one _) (by omega) (by omega)) rfl rfl rfl (by simp) ?_
    rintro ⟨A36, c36, m36⟩ h36
    try dsimp only at h36
    change J _ ((36, .slice A36 (t + 1) c36) :: _) _ [F, m36, blk g11 [N64 (t + 1), Str (List.replicate 16 (UInt8.ofNat t)), Str noughts, I 2, Str (Eh.PL.getD t [])] 50, blk g35 [N64 (t + 1), Str (List.replicate 16 (UInt8.ofNat t)), Str noughts, I 2, Str (Eh.PL.getD t [])] 50] _
    change Row m36 _ _ _ _ _ (entsV _ ++ entsV _) at h36
    rw [← entsV_app, ← Eh.ents_succ] at h36
    refine J.de rfl (op_call rfl rfl ent25 (Ct.use0 (fun F' hF => (evalue_ct F' (hK.mono (hF _ (by simp))) (t + 1) (List.replicate 16 (UInt8.ofNat t)) noughts 2 (Eh.PL.getD t []) (by omega) (by rw [List.length_replicate]; decide) (by decide) (by rw [Eh.PL_len t (by omega)]; decide)).mono (φ2 := fun _ => True) (val2 := fun _ : Unit => Str (Eh.PL.getD (t + 1) [])) id (fun _ _ => congrArg Str (Eh.valV t (by omega))) (fun _ _ => trivial) (fun _ _ _ _ h => h)))) rfl rfl rfl (by simp) ?_
    intro g38 _
    refine J.dy rfl (op_assign rfl rfl) rfl rfl rfl rfl ?_
    refine J.dy rfl (op_assign rfl rfl) rfl rfl rfl rfl ?_
    refine J.dnil ?_
    refine J.blk_n ?_
    refine J.then_n (J.k hK11 ?_)
    refine J.keepE [(1, _), (2, _), (7, _), (8, _), (9, _), (10, _)] ⟨rfl, rfl, rfl, rfl, rfl, rfl, trivial⟩ ?_
    refine J.perm [0, 1] [F, m36] rfl (by decide) ?_
    refine J.region ?_
    refine J.y (op_move rfl rfl) rfl rfl rfl ?_
    refine J.y ((op_add rfl rfl rfl (by first | omega | (refine ⟨?_, ?_⟩ <;> omega))).as (v' := I ((t + 1 : Nat) : Int)) (congrArg I (by omega))) rfl rfl rfl ?_
    refine J.y (op_assign rfl rfl) rfl rfl rfl ?_
    refine J.nil ?_
    refine J.then_n ?_
    exact J.kk (t + 1, A36, c36, m36) (fun x (hx : _ ∧ n - x.1 < n - t) => hI0 x hx.1 hx.2) ⟨⟨by dsimp only; omega, h36⟩, by dsimp only; omega⟩ ⟨rfl, rfl, rfl, rfl, rfl, rfl, trivial⟩ (fun _ h => h)
  ·
    refine J.exit ?_
    refine J.then_x ?_
    refine J.then_x ?_
    refine J.blk_eq ?_
    refine J.then_n (J.k hK7 ?_)
    refine J.keepE [(1, _), (2, _), (7, _), (8, _)] ⟨rfl, rfl, rfl, rfl, trivial⟩ ?_
    refine J.seq (fun K13 hK13 => ?_)
    refine J.seq (fun K14 hK14 => ?_)
    have hte : n = t := by omega
    subst hte
    have hcn := hrow.2.2.1
    refine J.perm [0, 1] [F, m] rfl (by decide) ?_
    refine J.region ?_
    refine J.y (op_move rfl rfl) rfl rfl rfl ?_
    refine J.e (op_call rfl rfl ent26 (Ct.use0 (fun F' hF => ehistory_ct F' (hK.mono (hF _ (by simp))) (Eh.ents n) (Eh.ents_good (by omega)) A8 n c8 (hrow.sl.mono (hF _ (by simp))) (by omega)))) rfl rfl rfl ?_
    intro g40 _
    refine J.y ((op_neq rfl rfl rfl).as (v' := .bool false) (congrArg Value.bool (decide_eq_false (fun h => h (Eh.ents_hist (by omega) (by omega)))))) rfl rfl rfl ?_
    refine J.y (op_move rfl rfl) rfl rfl rfl ?_
    refine J.eg (Wan.is rfl rfl rfl rfl rfl) (op_call rfl rfl ent26 (Ct.use0 (fun F' hF => ehistory_nil F' none 0))) rfl rfl ?_
    intro g43 _
    refine J.yg (Wan.is rfl rfl rfl rfl rfl) ((op_neq rfl rfl rfl).as (v' := .bool false) (congrArg Value.bool (decide_eq_false (by decide)))) rfl rfl ?_
    refine J.y (op_pickF rfl rfl rfl) rfl rfl rfl ?_
    refine J.nil ?_
    refine J.then_n (J.k hK14 ?_)
    refine J.keepE [(1, _), (2, _), (7, _), (8, _), (45, _)] ⟨rfl, rfl, rfl, rfl, rfl, trivial⟩ ?_
    refine J.condF rfl rfl ?_
    refine J.skip ?_
    refine J.then_n (J.k hK13 ?_)
    refine J.keepE [(1, _), (2, _), (7, _), (8, _)] ⟨rfl, rfl, rfl, rfl, trivial⟩ ?_
    refine J.seq (fun K15 hK15 => ?_)
    refine J.region ?_
    refine J.y (op_move rfl rfl) rfl rfl rfl ?_
    refine J.y (op_cv_u8_i64 rfl rfl Tryd.underlying5 Tryd.underlying3) rfl rfl rfl ?_
    refine J.y (op_move rfl rfl) rfl rfl rfl ?_
    refine J.y ((op_rem rfl rfl rfl (by omega)).as (v' := I (k : Int)) (congrArg I (by omega))) rfl rfl rfl ?_
    refine J.y (op_assign rfl rfl) rfl rfl rfl ?_
    refine J.nil ?_
    refine J.then_n (J.k hK15 ?_)
    refine J.keepE [(2, _), (7, _), (8, _), (12, _)] ⟨rfl, rfl, rfl, rfl, trivial⟩ ?_
    refine J.seq (fun K16 hK16 => ?_)
    refine J.region ?_
    refine J.e (op_buildSlice0 rfl Tryd.underlying46 el50) rfl rfl rfl ?_
    intro g50 _
    change J _ _ _ [F, m, blk g50 [] 50] _
    refine J.y (op_move rfl rfl) rfl rfl rfl ?_
    refine J.e (op_append (i := 2) (m2 := m) (xs := []) (ys := entsV (Eh.ents n)) rfl rfl rfl Tryd.underlying46 Tryd.underlying46 el50 rfl (row_blk (q := True) (xs := []) rfl (by simp)) (by simp) hrow.sl (entsV_one _) (by omega) (by omega)) rfl rfl rfl ?_
    rintro ⟨A52, c52, m52⟩ h52
    try dsimp only at h52
    change J _ _ _ [F, m, m52] _
    rw [List.nil_append] at h52
    obtain ⟨gb, hA⟩ := h52.at (by omega)
    subst hA
    have hA : (some ⟨gb, 0, none⟩ : Option Addr) = some ⟨gb, 0, none⟩ := rfl
    refine J.y (op_assign rfl rfl) rfl rfl rfl ?_
    refine J.nil ?_
    refine J.then_n (J.k hK16 ?_)
    refine J.keepE [(2, _), (7, _), (8, _), (12, _), (13, _)] ⟨rfl, rfl, rfl, rfl, rfl, trivial⟩ ?_
    refine J.seq (fun K17 hK17 => ?_)
    refine J.seq (fun K18 hK18 => ?_)
    refine J.region ?_
    refine J.y (op_move rfl rfl) rfl rfl rfl ?_
    refine J.y (op_and8 (b := 3) rfl rfl rfl) rfl rfl rfl ?_
    refine J.nil ?_
    refine J.then_n (J.k hK18 ?_)
    refine J.keepE [(7, _), (8, _), (12, _), (13, _), (54, _)] ⟨rfl, rfl, rfl, rfl, rfl, trivial⟩ ?_
    refine J.block ?_
    refine J.seq (fun K19 hK19 => ?_)
    refine J.region ?_
    refine J.y (op_eql rfl rfl rfl) rfl rfl rfl ?_
    refine J.y (op_assign rfl rfl) rfl rfl rfl ?_
    refine J.nil ?_
    refine J.then_n (J.k hK19 ?_)
    refine J.keepE [(7, _), (8, _), (12, _), (13, _), (54, _), (55, _)] ⟨rfl, rfl, rfl, rfl, rfl, rfl, trivial⟩ ?_
    refine J.ite rfl (fun h55 => ?_) (fun h55 => ?_)
    ·
      refine J.seq (fun K20 hK20 => ?_)
      refine J.region ?_
      refine J.y (op_move rfl rfl) rfl rfl rfl ?_
      refine J.y (op_move rfl rfl) rfl rfl rfl ?_
      refine J.y (op_indexAddr (i := k) rfl rfl rfl Tryd.underlying46 Tryd.sizeOf50 h52.sl (by omega)) rfl rfl rfl ?_
      refine J.y ((op_fieldAddr (j := k * 5 + 1) (off := k * 5 + 0) (g := gb) rfl (by show some _ = some _; first | rfl | (rw [elemAt_mk, Nat.zero_add]; rfl)) Tryd.underlying50 rfl Tryd.sizeOf36 rfl)) rfl rfl rfl ?_
      refine J.y ((op_fieldAddr (j := k * 5 + 3) (off := k * 5 + 1) (g := gb) rfl (by show some _ = some _; first | rfl | (rw [elemAt_mk, Nat.zero_add]; rfl)) Tryd.underlying36 rfl Tryd.sizeOf3 rfl)) rfl rfl rfl ?_
      refine J.s (op_storeRow (i := 2) (k := k) (off := 3) (b := { Eh.ent k with h := 3 }.cells) rfl rfl rfl rfl (hA ▸ h52) (vs := [I 3]) rfl Tryd.sizeOf3 rfl rfl (entsV_get (by rw [Eh.ents_len]; exact hkn)) (by rw [Eh.ents_get hkn]; rfl) (by show _ + 1 ≤ 5; decide)) rfl rfl ?_
      rintro m17 hr17
      change J _ _ _ [F, m, m17] _
      rw [entsV_set] at hr17
      refine J.nil ?_
      refine J.then_n (J.k hK20 ?_)
      refine J.keepE [(7, _), (12, _), (13, _)] ⟨rfl, rfl, rfl, trivial⟩ ?_
      refine J.seq (fun K21 hK21 => ?_)
      refine J.region ?_
      refine J.y (op_move rfl rfl) rfl rfl rfl ?_
      refine J.e (op_call rfl rfl ent26 (Ct.use0 (fun F' hF => ehistory_ct F' (hK.mono (hF _ (by simp))) ((Eh.ents n).set k { Eh.ent k with h := 3 }) (set_good (Eh.ents_good (by omega)) ⟨(Eh.ent_good (by omega)).1, (Eh.ent_good (by omega)).2⟩) (some ⟨gb, 0, none⟩) (0 + n) c52 (hr17.sl.mono (hF _ (by simp))) (by omega)))) rfl rfl rfl ?_
      intro g63 _
      refine J.y ((op_eql rfl rfl rfl).as (v' := .bool (decide (k = n - 1))) (congrArg Value.bool (decide_eq_decide.2 (iff_of_eq (Eh.bad0 (by omega) hkn))))) rfl rfl rfl ?_
      refine J.y (op_move rfl rfl) rfl rfl rfl ?_
      refine J.y (op_move rfl rfl) rfl rfl rfl ?_
      refine J.y (op_sub rfl rfl rfl (by omega)) rfl rfl rfl ?_
      refine J.y ((op_eql rfl rfl rfl).as (v' := .bool (decide (k = n - 1))) (congrArg Value.bool (decide_eq_decide.2 (by omega)))) rfl rfl rfl ?_
      refine J.y ((op_eqlB Tryd.underlying4 rfl rfl rfl).as (v' := .bool true) (congrArg Value.bool (by simp))) rfl rfl rfl ?_
      refine J.y (op_assign rfl rfl) rfl rfl rfl ?_
      refine J.nil ?_
      refine J.then_n (J.k hK21 ?_)
      refine J.keepE [(6, _)] ⟨rfl, trivial⟩ ?_
      refine J.ret ?_
      refine J.blk_r ?_
      refine J.then_r ?_
      exact J.done (fun _ _ h => h) (res1 rfl rfl) (retOk () rfl trivial [0] rfl (by decide))
    ·
      refine J.seq (fun K22 hK22 => ?_)
      refine J.region ?_
      refine J.y (op_eql rfl rfl rfl) rfl rfl rfl ?_
      refine J.y (op_assign rfl rfl) rfl rfl rfl ?_
      refine J.nil ?_
      refine J.then_n (J.k hK22 ?_)
      refine J.keepE [(7, _), (8, _), (12, _), (13, _), (54, _), (70, _)] ⟨rfl, rfl, rfl, rfl, rfl, rfl, trivial⟩ ?_
      refine J.ite rfl (fun h70 => ?_) (fun h70 => ?_)
      ·
        refine J.seq (fun K23 hK23 => ?_)
        refine J.region ?_
        refine J.y (op_move rfl rfl) rfl rfl rfl ?_
        refine J.y (op_move rfl rfl) rfl rfl rfl ?_
        refine J.y (op_indexAddr (i := k) rfl rfl rfl Tryd.underlying46 Tryd.sizeOf50 h52.sl (by omega)) rfl rfl rfl ?_
        refine J.y ((op_fieldAddr (j := k * 5 + 0) (off := k * 5 + 0) (g := gb) rfl (by show some _ = some _; first | rfl | (rw [elemAt_mk, Nat.zero_add]; rfl)) Tryd.underlying50 rfl Tryd.sizeOf47 rfl)) rfl rfl rfl ?_
        refine J.y (op_load rfl rfl Tryd.isAgg47 (m := m52) (by simp) (v := N64 (k + 1)) (by have := (hA ▸ h52.sl).cell (entsV_get (l := (Eh.ents n)) (j := k) (by rw [Eh.ents_len]; exact hkn)) (k := 0) (v := N64 (k + 1)) (by rw [Eh.ents_get hkn]; rfl); rw [Nat.zero_add] at this; exact this)) rfl rfl rfl ?_
        refine J.y ((op_addU (a := k + 1) (b := 5) rfl rfl rfl (by omega)).as (v' := N64 (k + 6)) rfl) rfl rfl rfl ?_
        refine J.y (op_indexAddr (i := k) rfl rfl rfl Tryd.underlying46 Tryd.sizeOf50 h52.sl (by omega)) rfl rfl rfl ?_
        refine J.y ((op_fieldAddr (j := k * 5 + 0) (off := k * 5 + 0) (g := gb) rfl (by show some _ = some _; first | rfl | (rw [elemAt_mk, Nat.zero_add]; rfl)) Tryd.underlying50 rfl Tryd.sizeOf47 rfl)) rfl rfl rfl ?_
        refine J.s (op_storeRow (i := 2) (k := k) (off := 0) (b := { Eh.ent k with v := k + 6 }.cells) rfl rfl rfl rfl (hA ▸ h52) (vs := [N64 (k + 6)]) rfl Tryd.sizeOf47 rfl rfl (entsV_get (by rw [Eh.ents_len]; exact hkn)) (by rw [Eh.ents_get hkn]; rfl) (by show _ + 1 ≤ 5; decide)) rfl rfl ?_
        rintro m17 hr20
        change J _ _ _ [F, m, m17] _
        rw [entsV_set] at hr20
        refine J.nil ?_
        refine J.then_n (J.k hK23 ?_)
        refine J.keepE [(13, _)] ⟨rfl, trivial⟩ ?_
        refine J.seq (fun K24 hK24 => ?_)
        refine J.region ?_
        refine J.y (op_move rfl rfl) rfl rfl rfl ?_
        refine J.e (op_call rfl rfl ent26 (Ct.use0 (fun F' hF => ehistory_ct F' (hK.mono (hF _ (by simp))) ((Eh.ents n).set k { Eh.ent k with v := k + 6 }) (set_good (Eh.ents_good (by omega)) ⟨by show k + 6 < _; omega, (Eh.ent_good (by omega)).2⟩) (some ⟨gb, 0, none⟩) (0 + n) c52 (hr20.sl.mono (hF _ (by simp))) (by omega)))) rfl rfl rfl ?_
        intro g81 _
        refine J.y ((op_eql rfl rfl rfl).as (v' := .bool true) (congrArg Value.bool (decide_eq_true (Eh.bad1 (by omega) hkn)))) rfl rfl rfl ?_
        refine J.y (op_assign rfl rfl) rfl rfl rfl ?_
        refine J.nil ?_
        refine J.then_n (J.k hK24 ?_)
        refine J.keepE [(6, _)] ⟨rfl, trivial⟩ ?_
        refine J.ret ?_
        refine J.blk_r ?_
        refine J.then_r ?_
        exact J.done (fun _ _ h => h) (res1 rfl rfl) (retOk () rfl trivial [0] rfl (by decide))
      ·
        refine J.seq (fun K25 hK25 => ?_)
        refine J.region ?_
        refine J.y (op_eql rfl rfl rfl) rfl rfl rfl ?_
        refine J.y (op_assign rfl rfl) rfl rfl rfl ?_
        refine J.nil ?_
        refine J.then_n (J.k hK25 ?_)
        refine J.keepE [(7, _), (8, _), (12, _), (13, _), (83, _)] ⟨rfl, rfl, rfl, rfl, rfl, trivial⟩ ?_
        refine J.ite rfl (fun h83 => ?_) (fun h83 => ?_)
        ·
          refine J.seq (fun K26 hK26 => ?_)
          refine J.region ?_
          refine J.y (op_move rfl rfl) rfl rfl rfl ?_
          refine J.y (op_move rfl rfl) rfl rfl rfl ?_
          refine J.e (op_call rfl rfl ent24 (Ct.use0 (fun F' hF => key17_ct F' 122))) rfl rfl rfl ?_
          intro g87 _
          refine J.y (op_field rfl rfl Tryd.underlying36 rfl Tryd.isAgg9 rfl) rfl rfl rfl ?_
          refine J.y (op_indexAddr (i := k) rfl rfl rfl Tryd.underlying46 Tryd.sizeOf50 h52.sl (by omega)) rfl rfl rfl ?_
          refine J.y ((op_fieldAddr (j := k * 5 + 4) (off := k * 5 + 0) (g := gb) rfl (by show some _ = some _; first | rfl | (rw [elemAt_mk, Nat.zero_add]; rfl)) Tryd.underlying50 rfl Tryd.sizeOf9 rfl)) rfl rfl rfl ?_
          refine J.s (op_storeRow (i := 2) (k := k) (off := 4) (b := { Eh.ent k with p := List.replicate 16 122 }.cells) rfl rfl rfl rfl (hA ▸ h52) (vs := [Str (List.replicate 16 122)]) rfl Tryd.sizeOf9 rfl rfl (entsV_get (by rw [Eh.ents_len]; exact hkn)) (by rw [Eh.ents_get hkn]; rfl) (by show _ + 1 ≤ 5; decide)) rfl rfl ?_
          rintro m17 hr23
          change J _ _ _ [F, m, m17] _
          rw [entsV_set] at hr23
          refine J.nil ?_
          refine J.then_n (J.k hK26 ?_)
          refine J.keepE [(13, _)] ⟨rfl, trivial⟩ ?_
          refine J.seq (fun K27 hK27 => ?_)
          refine J.region ?_
          refine J.y (op_move rfl rfl) rfl rfl rfl ?_
          refine J.e (op_call rfl rfl ent26 (Ct.use0 (fun F' hF => ehistory_ct F' (hK.mono (hF _ (by simp))) ((Eh.ents n).set k { Eh.ent k with p := List.replicate 16 122 }) (set_good (Eh.ents_good (by omega)) ⟨(Eh.ent_good (by omega)).1, (Eh.ent_good (by omega)).2.1, (Eh.ent_good (by omega)).2.2.1, by show (List.replicate 16 (122 : UInt8)).length ≤ _; rw [List.length_replicate]; decide⟩) (some ⟨gb, 0, none⟩) (0 + n) c52 (hr23.sl.mono (hF _ (by simp))) (by omega)))) rfl rfl rfl ?_
          intro g92 _
          refine J.y ((op_eql rfl rfl rfl).as (v' := .bool true) (congrArg Value.bool (decide_eq_true (Eh.bad2 (by omega) hkn)))) rfl rfl rfl ?_
          refine J.y (op_assign rfl rfl) rfl rfl rfl ?_
          refine J.nil ?_
          refine J.then_n (J.k hK27 ?_)
          refine J.keepE [(6, _)] ⟨rfl, trivial⟩ ?_
          refine J.ret ?_
          refine J.blk_r ?_
          refine J.then_r ?_
          exact J.done (fun _ _ h => h) (res1 rfl rfl) (retOk () rfl trivial [0] rfl (by decide))
        ·
          refine J.skip ?_
          refine J.blk_n ?_
          refine J.then_n (J.k hK17 ?_)
          refine J.keepE [(7, _), (8, _), (12, _)] ⟨rfl, rfl, rfl, trivial⟩ ?_
          refine J.seq (fun K28 hK28 => ?_)
          refine J.draw [m] [] (.y 1 (.y 2 (.y 3 (.y 5 (.y 6 (.y 7 (.y 8 (.e 0 (.e 4 (.e 9 (.y 10 .nil))))))))))) Tryd.wide (by decide +kernel) (by simp) ?_
          refine J.dy rfl (op_move rfl rfl) rfl rfl rfl rfl ?_
          refine J.dy rfl (op_move rfl rfl) rfl rfl rfl rfl ?_
          refine J.dy rfl (op_sliceTo (h := k) rfl rfl Tryd.underlying46 Tryd.sizeOf50 rfl (by omega)) rfl rfl rfl rfl ?_
          refine J.dy rfl (op_move rfl rfl) rfl rfl rfl rfl ?_
          refine J.dy rfl (op_move rfl rfl) rfl rfl rfl rfl ?_
          refine J.dy rfl ((op_add rfl rfl rfl (by first | omega | (refine ⟨?_, ?_⟩ <;> omega))).as (v' := I ((k + 1 : Nat) : Int)) (congrArg I (by omega))) rfl rfl rfl rfl ?_
          refine J.dy rfl (op_slice (l := k + 1) (h := n) rfl rfl Tryd.underlying46 Tryd.sizeOf50 rfl rfl (by omega)) rfl rfl rfl rfl ?_
          refine J.de rfl (op_buildSlice0 rfl Tryd.underlying46 el50) rfl rfl rfl (by simp) ?_
          intro g94 _
          change J _ _ _ [F, m, m52, blk g94 [] 50] _
          refine J.de rfl (op_append (i := 3) (m2 := m) (xs := []) (ys := (entsV (Eh.ents n)).take k) rfl rfl rfl Tryd.underlying46 Tryd.underlying46 el50 rfl (row_blk (q := True) (xs := []) rfl (by simp)) (by simp) (hrow.sl.to (by omega)) (by rw [entsV_take]; exact entsV_one _) (by omega) (by omega)) rfl rfl rfl (by simp) ?_
          rintro ⟨A98, c98, m98⟩ h98
          try dsimp only at h98
          change J _ _ _ [F, m, m52, m98] _
          refine J.de rfl (op_append (i := 3) (m2 := m) (ys := ((entsV (Eh.ents n)).take n).drop (k + 1)) rfl rfl rfl Tryd.underlying46 Tryd.underlying46 el50 rfl h98 (by simp) (hrow.sl.cut (by omega) (Nat.le_refl _) (by omega)) (by rw [List.take_of_length_le (by rw [entsV_len, Eh.ents_len]; exact Nat.le_refl _), entsV_drop]; exact entsV_one _) (by omega) (by omega)) rfl rfl rfl (by simp) ?_
          rintro ⟨A103, c103, m103⟩ h103
          try dsimp only at h103
          change J _ _ _ [F, m, m52, m103] _
          rw [List.nil_append, entsV_take, entsV_take, entsV_drop, ← entsV_app, List.take_of_length_le (l := Eh.ents n) (i := n) (by rw [Eh.ents_len]; exact Nat.le_refl _)] at h103
          refine J.dy rfl (op_assign rfl rfl) rfl rfl rfl rfl ?_
          refine J.dnil ?_
          refine J.then_n (J.k hK28 ?_)
          refine J.keepE [(7, _), (8, _), (12, _), (13, _)] ⟨rfl, rfl, rfl, rfl, trivial⟩ ?_
          refine J.seq (fun K29 hK29 => ?_)
          refine J.region ?_
          refine J.y (op_move rfl rfl) rfl rfl rfl ?_
          refine J.e (op_call rfl rfl ent26 (Ct.use0 (fun F' hF => ehistory_ct F' (hK.mono (hF _ (by simp))) ((Eh.ents n).take k ++ (Eh.ents n).drop (k + 1)) (cut_good (Eh.ents_good (by omega))) A103 (0 + k + (n - (k + 1))) c103 (h103.sl.mono (hF _ (by simp))) (by omega)))) rfl rfl rfl ?_
          intro g105 _
          refine J.y ((op_eql rfl rfl rfl).as (v' := .bool (decide (k = n - 1 ∧ 1 < n))) (congrArg Value.bool (decide_eq_decide.2 (iff_of_eq (Eh.bad3 (by omega) hkn))))) rfl rfl rfl ?_
          refine J.y (op_move rfl rfl) rfl rfl rfl ?_
          refine J.y (op_move rfl rfl) rfl rfl rfl ?_
          refine J.y (op_sub rfl rfl rfl (by omega)) rfl rfl rfl ?_
          refine J.y (op_eql rfl rfl rfl) rfl rfl rfl ?_
          refine J.y (op_move rfl rfl) rfl rfl rfl ?_
          refine J.split (d := 111) rfl (fun h111 => ?_) (fun h111 => ?_)
          ·
            refine J.yg (Wan.is rfl rfl rfl rfl rfl) (op_move rfl rfl) rfl rfl ?_
            refine J.yg (Wan.is rfl rfl rfl rfl rfl) (op_gtr rfl rfl rfl) rfl rfl ?_
            refine J.y (by first | exact ((op_pickT rfl rfl rfl).as (v' := .bool (decide (k = n - 1 ∧ 1 < n))) (congrArg Value.bool (decide_eq_decide.2 (by omega)))) | exact ((op_pickF rfl rfl rfl).as (v' := .bool (decide (k = n - 1 ∧ 1 < n))) (congrArg Value.bool (decide_eq_false (by omega)).symm))) rfl rfl rfl ?_
            refine J.y ((op_eqlB Tryd.underlying4 rfl rfl rfl).as (v' := .bool true) (congrArg Value.bool (by simp))) rfl rfl rfl ?_
            refine J.y (op_move rfl rfl) rfl rfl rfl ?_
            refine J.yg (Wan.is rfl rfl rfl rfl rfl) (op_move rfl rfl) rfl rfl ?_
            refine J.yg (Wan.is rfl rfl rfl rfl rfl) (op_move rfl rfl) rfl rfl ?_
            refine J.yg (Wan.is rfl rfl rfl rfl rfl) (op_move rfl rfl) rfl rfl ?_
            refine J.yg (Wan.is rfl rfl rfl rfl rfl) (op_indexAddr (i := k) rfl rfl rfl Tryd.underlying46 Tryd.sizeOf50 hrow.sl (by omega)) rfl rfl ?_
            refine J.yg (Wan.is rfl rfl rfl rfl rfl) (op_loadA rfl rfl Tryd.isAgg50 Tryd.sizeOf50 (m := m) (by simp) (vs := (Eh.ent k).cells) (hrow.sl.elem (by rw [entsV_get (by rw [Eh.ents_len]; exact hkn), Eh.ents_get hkn])) rfl) rfl rfl ?_
            refine J.eg (Wan.is rfl rfl rfl rfl rfl) (op_buildSlice (l := [.tmp 121]) (xs := [(Eh.ent k).cells]) rfl rfl rfl rfl Tryd.underlying46 el50 rfl (by decide) (by decide) (by simp [En.cells])) rfl rfl ?_
            intro g122 _
            change J _ _ _ [F, m, m52, m103, blk g122 (Eh.ent k).cells 50] _
            refine J.eg (Wan.is rfl rfl rfl rfl rfl) (op_append (i := 1) (m2 := blk g122 (Eh.ent k).cells 50) (xs := entsV (Eh.ents n)) (ys := [Eh.ent k].map En.cells) rfl rfl rfl Tryd.underlying46 Tryd.underlying46 el50 rfl hrow (by simp) (row_blk (q := True) (xs := [Eh.ent k].map En.cells) rfl (by simp [En.cells])).sl (entsV_one _) (by omega) (by omega)) rfl rfl ?_
            rintro ⟨A123, c123, m123⟩ h123
            try dsimp only at h123
            change J _ ((123, .slice A123 (n + 1) c123) :: _) _ [F, m123, m52, m103, blk g122 (Eh.ent k).cells 50] _
            change Row m123 _ _ _ _ _ (entsV _ ++ entsV _) at h123
            rw [← entsV_app] at h123
            refine J.eg (Wan.is rfl rfl rfl rfl rfl) (op_call rfl rfl ent26 (Ct.use0 (fun F' hF => ehistory_ct F' (hK.mono (hF _ (by simp))) ((Eh.ents n) ++ [Eh.ent k]) (fun x hx => by rcases List.mem_append.1 hx with h1 | h1; exact Eh.ents_good (by omega) x h1; rw [List.mem_singleton] at h1; rw [h1]; exact Eh.ent_good (by omega)) A123 (n + 1) c123 (h123.sl.mono (hF _ (by simp))) (by omega)))) rfl rfl ?_
            intro g124 _
            refine J.yg (Wan.is rfl rfl rfl rfl rfl) ((op_eql rfl rfl rfl).as (v' := .bool true) (congrArg Value.bool (decide_eq_true (Eh.bad4 (by omega) hkn)))) rfl rfl ?_
            refine J.y (op_pickT rfl rfl rfl) rfl rfl rfl ?_
            refine J.y (op_assign rfl rfl) rfl rfl rfl ?_
            refine J.nil ?_
            refine J.then_n (J.k hK29 ?_)
            refine J.keepE [(6, _)] ⟨rfl, trivial⟩ ?_
            refine J.ret ?_
            exact J.done (fun _ _ h => h) (res1 rfl rfl) (retOk () rfl trivial [0] rfl (by decide))
          ·
            refine J.no (Wan.is rfl rfl rfl rfl rfl) rfl rfl ?_
            refine J.no (Wan.is rfl rfl rfl rfl rfl) rfl rfl ?_
            refine J.y (by first | exact ((op_pickT rfl rfl rfl).as (v' := .bool (decide (k = n - 1 ∧ 1 < n))) (congrArg Value.bool (decide_eq_decide.2 (by omega)))) | exact ((op_pickF rfl rfl rfl).as (v' := .bool (decide (k = n - 1 ∧ 1 < n))) (congrArg Value.bool (decide_eq_false (by omega)).symm))) rfl rfl rfl ?_
            refine J.y ((op_eqlB Tryd.underlying4 rfl rfl rfl).as (v' := .bool true) (congrArg Value.bool (by simp))) rfl rfl rfl ?_
            refine J.y (op_move rfl rfl) rfl rfl rfl ?_
            refine J.yg (Wan.is rfl rfl rfl rfl rfl) (op_move rfl rfl) rfl rfl ?_
            refine J.yg (Wan.is rfl rfl rfl rfl rfl) (op_move rfl rfl) rfl rfl ?_
            refine J.yg (Wan.is rfl rfl rfl rfl rfl) (op_move rfl rfl) rfl rfl ?_
            refine J.yg (Wan.is rfl rfl rfl rfl rfl) (op_indexAddr (i := k) rfl rfl rfl Tryd.underlying46 Tryd.sizeOf50 hrow.sl (by omega)) rfl rfl ?_
            refine J.yg (Wan.is rfl rfl rfl rfl rfl) (op_loadA rfl rfl Tryd.isAgg50 Tryd.sizeOf50 (m := m) (by simp) (vs := (Eh.ent k).cells) (hrow.sl.elem (by rw [entsV_get (by rw [Eh.ents_len]; exact hkn), Eh.ents_get hkn])) rfl) rfl rfl ?_
            refine J.eg (Wan.is rfl rfl rfl rfl rfl) (op_buildSlice (l := [.tmp 121]) (xs := [(Eh.ent k).cells]) rfl rfl rfl rfl Tryd.underlying46 el50 rfl (by decide) (by decide) (by simp [En.cells])) rfl rfl ?_
            intro g122 _
            change J _ _ _ [F, m, m52, m103, blk g122 (Eh.ent k).cells 50] _
            refine J.eg (Wan.is rfl rfl rfl rfl rfl) (op_append (i := 1) (m2 := blk g122 (Eh.ent k).cells 50) (xs := entsV (Eh.ents n)) (ys := [Eh.ent k].map En.cells) rfl rfl rfl Tryd.underlying46 Tryd.underlying46 el50 rfl hrow (by simp) (row_blk (q := True) (xs := [Eh.ent k].map En.cells) rfl (by simp [En.cells])).sl (entsV_one _) (by omega) (by omega)) rfl rfl ?_
            rintro ⟨A123, c123, m123⟩ h123
            try dsimp only at h123
            change J _ ((123, .slice A123 (n + 1) c123) :: _) _ [F, m123, m52, m103, blk g122 (Eh.ent k).cells 50] _
            change Row m123 _ _ _ _ _ (entsV _ ++ entsV _) at h123
            rw [← entsV_app] at h123
            refine J.eg (Wan.is rfl rfl rfl rfl rfl) (op_call rfl rfl ent26 (Ct.use0 (fun F' hF => ehistory_ct F' (hK.mono (hF _ (by simp))) ((Eh.ents n) ++ [Eh.ent k]) (fun x hx => by rcases List.mem_append.1 hx with h1 | h1; exact Eh.ents_good (by omega) x h1; rw [List.mem_singleton] at h1; rw [h1]; exact Eh.ent_good (by omega)) A123 (n + 1) c123 (h123.sl.mono (hF _ (by simp))) (by omega)))) rfl rfl ?_
            intro g124 _
            refine J.yg (Wan.is rfl rfl rfl rfl rfl) ((op_eql rfl rfl rfl).as (v' := .bool true) (congrArg Value.bool (decide_eq_true (Eh.bad4 (by omega) hkn)))) rfl rfl ?_
            refine J.y (op_pickT rfl rfl rfl) rfl rfl rfl ?_
            refine J.y (op_assign rfl rfl) rfl rfl rfl ?_
            refine J.nil ?_
            refine J.then_n (J.k hK29 ?_)
            refine J.keepE [(6, _)] ⟨rfl, trivial⟩ ?_
            refine J.ret ?_
            exact J.done (fun _ _ h => h) (res1 rfl rfl) (retOk () rfl trivial [0] rfl (by decide))

end Go.Proofs.YtlopnfgacopkbaaDoor
