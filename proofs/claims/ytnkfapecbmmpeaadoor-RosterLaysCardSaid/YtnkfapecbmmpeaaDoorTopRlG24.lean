/- A part of the proof: contracts of functions of the program, each for every state of the heaps that it names. -/
import Derived.Test.YtnkfapecbmmpeaaDoorTopRlG20
import Derived.Test.YtnkfapecbmmpeaaDoorTopRlG19
import Derived.Test.YtnkfapecbmmpeaaDoorTopRlG23
set_option linter.unusedSimpArgs false
set_option linter.unusedVariables false
namespace Go.Proofs.YtnkfapecbmmpeaaDoor
open Go Go.Fw
set_option maxRecDepth 100000
set_option maxHeartbeats 1000000
theorem code_a0 : codeN [97, 97] = 0 := by
  unfold codeN
  rw [show normal [97, 97] = ([97, 97], 0) from normal_lit (l := [97, 97]) (by decide) (by decide) (by decide)]; rfl
theorem code_a1 : codeN [97, 98] = 0 := by
  unfold codeN
  rw [show normal [97, 98] = ([97, 98], 0) from normal_lit (l := [97, 98]) (by decide) (by decide) (by decide)]; rfl
theorem code_a2 : codeN [97, 99] = 0 := by
  unfold codeN
  rw [show normal [97, 99] = ([97, 99], 0) from normal_lit (l := [97, 99]) (by decide) (by decide) (by decide)]; rfl
theorem code_a3 : codeN [97, 100] = 0 := by
  unfold codeN
  rw [show normal [97, 100] = ([97, 100], 0) from normal_lit (l := [97, 100]) (by decide) (by decide) (by decide)]; rfl
theorem code_a4 : codeN [97, 101] = 0 := by
  unfold codeN
  rw [show normal [97, 101] = ([97, 101], 0) from normal_lit (l := [97, 101]) (by decide) (by decide) (by decide)]; rfl
theorem code_a5 : codeN [97, 102] = 0 := by
  unfold codeN
  rw [show normal [97, 102] = ([97, 102], 0) from normal_lit (l := [97, 102]) (by decide) (by decide) (by decide)]; rfl
theorem code_a6 : codeN [97, 103] = 0 := by
  unfold codeN
  rw [show normal [97, 103] = ([97, 103], 0) from normal_lit (l := [97, 103]) (by decide) (by decide) (by decide)]; rfl
theorem code_a7 : codeN [97, 104] = 0 := by
  unfold codeN
  rw [show normal [97, 104] = ([97, 104], 0) from normal_lit (l := [97, 104]) (by decide) (by decide) (by decide)]; rfl
theorem code_a8 : codeN [97, 105] = 0 := by
  unfold codeN
  rw [show normal [97, 105] = ([97, 105], 0) from normal_lit (l := [97, 105]) (by decide) (by decide) (by decide)]; rfl
theorem code_a9 : codeN [97, 106] = 0 := by
  unfold codeN
  rw [show normal [97, 106] = ([97, 106], 0) from normal_lit (l := [97, 106]) (by decide) (by decide) (by decide)]; rfl
theorem code_a10 : codeN [97, 107] = 0 := by
  unfold codeN
  rw [show normal [97, 107] = ([97, 107], 0) from normal_lit (l := [97, 107]) (by decide) (by decide) (by decide)]; rfl
theorem code_a11 : codeN [97, 108] = 0 := by
  unfold codeN
  rw [show normal [97, 108] = ([97, 108], 0) from normal_lit (l := [97, 108]) (by decide) (by decide) (by decide)]; rfl
theorem code_a12 : codeN [97, 109] = 0 := by
  unfold codeN
  rw [show normal [97, 109] = ([97, 109], 0) from normal_lit (l := [97, 109]) (by decide) (by decide) (by decide)]; rfl
theorem code_a13 : codeN [97, 110] = 0 := by
  unfold codeN
  rw [show normal [97, 110] = ([97, 110], 0) from normal_lit (l := [97, 110]) (by decide) (by decide) (by decide)]; rfl
theorem code_a14 : codeN [97, 111] = 0 := by
  unfold codeN
  rw [show normal [97, 111] = ([97, 111], 0) from normal_lit (l := [97, 111]) (by decide) (by decide) (by decide)]; rfl
theorem code_zz : codeN [122, 122] = 0 := by
  unfold codeN
  rw [show normal [122, 122] = ([122, 122], 0) from normal_lit (l := [122, 122]) (by decide) (by decide) (by decide)]; rfl

def nmA (j : Nat) : List UInt8 := [97] ++ [UInt8.ofNat (97 + j)]
theorem code_nm {i : Nat} (hi : i < 15) : codeN (nmA i) = 0 := by
  match i, hi with
  | 0, _ => exact code_a0
  | 1, _ => exact code_a1
  | 2, _ => exact code_a2
  | 3, _ => exact code_a3
  | 4, _ => exact code_a4
  | 5, _ => exact code_a5
  | 6, _ => exact code_a6
  | 7, _ => exact code_a7
  | 8, _ => exact code_a8
  | 9, _ => exact code_a9
  | 10, _ => exact code_a10
  | 11, _ => exact code_a11
  | 12, _ => exact code_a12
  | 13, _ => exact code_a13
  | 14, _ => exact code_a14
def audA (j : Nat) : Aud := ⟨nmA j, keyO (UInt8.ofNat j), z16, 1⟩
def audL (i : Nat) : List Aud := (List.range i).map audA
theorem audL_succ (i : Nat) : audL (i + 1) = audL i ++ [audA i] := by unfold audL; rw [List.range_succ, List.map_append]; rfl
theorem audL_len (i : Nat) : (audL i).length = i := by unfold audL; rw [List.length_map, List.length_range]
theorem audL_get {i j : Nat} (h : j < i) : (audL i).getD j noAud = audA j := by
  unfold audL
  rw [List.getD_eq_getElem?_getD, List.getElem?_map, List.getElem?_range h]; rfl
theorem may_1 {s : List UInt8} (h : codeN s = 0) (k : UInt8) : mayE s (keyO k) z16 1 = 0 := by
  unfold mayE
  rw [if_neg (by omega), key_err]; rfl
theorem ofNat_inj {a b : Nat} (ha : a < 256) (hb : b < 256) (h : UInt8.ofNat a = UInt8.ofNat b) : a = b := by
  have := congrArg UInt8.toNat h
  rw [UInt8.toNat_ofNat', UInt8.toNat_ofNat'] at this
  omega
theorem add_a {i : Nat} (hi : i < 15) : addE (audL i) (nmA i) (keyO (UInt8.ofNat i)) z16 1 = 0 := by
  unfold addE
  rw [may_1 (code_nm hi), if_neg (by decide), if_neg, if_neg (by rw [audL_len]; omega)]
  intro h
  obtain ⟨x, hx, hs⟩ := List.any_eq_true.1 h
  obtain ⟨j, hj, rfl⟩ := List.mem_map.1 hx
  have hji := List.mem_range.1 hj
  unfold same audA nmA at hs
  dsimp only at hs
  rw [Bool.or_eq_true, decide_eq_true_eq, decide_eq_true_eq] at hs
  rcases hs with hs | ⟨hs, _⟩
  · injection hs with _ hs
    injection hs with hs _
    have := ofNat_inj (by omega) (by omega) hs
    omega
  · have := ofNat_inj (by omega) (by omega) (keyO_inj.1 hs)
    omega
theorem addL_a {i : Nat} (hi : i < 15) : addL (audL i) (nmA i) (keyO (UInt8.ofNat i)) z16 1 = audL (i + 1) := by
  unfold addL
  rw [if_pos (add_a hi), audL_succ]; rfl
theorem add_z {i : Nat} (hi : i ≤ 15) : addE (audL i) [122, 122] (keyO 200) z16 1 = 0 := by
  unfold addE
  rw [may_1 code_zz, if_neg (by decide), if_neg, if_neg (by rw [audL_len]; omega)]
  intro h
  obtain ⟨x, hx, hs⟩ := List.any_eq_true.1 h
  obtain ⟨j, hj, rfl⟩ := List.mem_map.1 hx
  have hji := List.mem_range.1 hj
  unfold same audA nmA at hs
  dsimp only at hs
  rw [Bool.or_eq_true, decide_eq_true_eq, decide_eq_true_eq] at hs
  rcases hs with hs | ⟨hs, _⟩
  · injection hs with hs _
    exact absurd hs (by decide)
  · have := ofNat_inj (a := j) (b := 200) (by omega) (by omega) (keyO_inj.1 hs)
    omega
theorem addL_z {i : Nat} (hi : i ≤ 15) : (addL (audL i) [122, 122] (keyO 200) z16 1).length = i + 1 := by
  unfold addL
  rw [if_pos (add_z hi), List.length_append, audL_len]; rfl
/-! ## laid into a tree -/
def audV (x : Aud) : List UInt8 := if pubErr x.op x.rt x.ht = 0 then Sha.tagged 16 [x.nm, pubEnc x.op x.rt x.ht] else []
theorem audV_len (x : Aud) : (audV x).length ≤ 16 := by
  unfold audV
  split
  · rw [Sha.tagged_length]; exact Nat.le_refl _
  · exact Nat.zero_le _

theorem getP_end : ∀ {l : List Sm.PR} {p : Sm.PR}, Sm.getP l p.1 = none → Sm.getP (l ++ [p]) p.1 = some p.2
  | [], p, _ => by show (if p.1 = p.1 then _ else _) = _; rw [if_pos rfl]
  | q :: r, p, h => by
    rw [Sm.getP] at h
    show (if q.1 = p.1 then some q.2 else Sm.getP (r ++ [p]) p.1) = _
    by_cases e : q.1 = p.1
    · rw [if_pos e] at h; cases h
    · rw [if_neg e] at h ⊢; exact getP_end h
theorem getP_front : ∀ {l r : List Sm.PR} {k v : List UInt8}, Sm.getP l k = some v → Sm.getP (l ++ r) k = some v
  | [], _, _, _, h => by cases h
  | q :: l, r, k, v, h => by
    rw [Sm.getP] at h
    show (if q.1 = k then some q.2 else Sm.getP (l ++ r) k) = _
    by_cases e : q.1 = k
    · rw [if_pos e] at h ⊢; exact h
    · rw [if_neg e] at h ⊢; exact getP_front h

/-- a roster in a tree -/
def layP (kv : List Sm.PR) (l : List Aud) : Nat → List Sm.PR
  | 0 => kv
  | n + 1 => Sm.putP (layP kv l n) (placeK n) (audV (l.getD n noAud))
theorem putP_new : ∀ {l : List Sm.PR} {k : List UInt8} (v : List UInt8), (∀ p ∈ l, p.1 ≠ k) → Sm.putP l k v = l ++ [(k, v)]
  | [], k, v, _ => rfl
  | p :: r, k, v, h => by rw [Sm.putP, if_neg (h p (.head _)), putP_new v (fun q hq => h q (.tail _ hq))]; rfl
theorem layP_eq (l : List Aud) : ∀ n, n ≤ 15 → layP [] l n = (List.range n).map fun i => (placeK i, audV (l.getD i noAud))
  | 0, _ => rfl
  | n + 1, h => by
    rw [layP, layP_eq l n (by omega), putP_new _ (fun p hp => ?_), List.range_succ, List.map_append]; rfl
    obtain ⟨j, hj, rfl⟩ := List.mem_map.1 hp
    have := List.mem_range.1 hj
    exact placeK_ne (by omega) (by omega) (by omega)
theorem layP_len (l : List Aud) {n : Nat} (h : n ≤ 15) : (layP [] l n).length = n := by rw [layP_eq l n h, List.length_map, List.length_range]
theorem getP_map {f : Nat → Sm.PR} {i : Nat} : ∀ {n : Nat}, i < n → (∀ j, j < n → j ≠ i → (f j).1 ≠ (f i).1) → Sm.getP ((List.range n).map f) (f i).1 = some (f i).2
  | 0, h, _ => absurd h (Nat.not_lt_zero i)
  | n + 1, h, hn => by
    rw [List.range_succ, List.map_append]
    by_cases hin : i = n
    · subst hin
      have h1 : Sm.getP ((List.range i).map f) (f i).1 = none := Sm.getP_none fun p hp => by
        obtain ⟨j, hj, rfl⟩ := List.mem_map.1 hp
        have := List.mem_range.1 hj
        exact hn j (by omega) (by omega)
      exact getP_end h1
    · have h2 := getP_map (n := n) (f := f) (i := i) (by omega) (fun j hj hji => hn j (by omega) hji)
      exact getP_front h2

theorem layP_get (l : List Aud) {n i : Nat} (h : n ≤ 15) (hi : i < n) : Sm.getP (layP [] l n) (placeK i) = some (audV (l.getD i noAud)) := by
  rw [layP_eq l n h]
  exact getP_map (f := fun i => (placeK i, audV (l.getD i noAud))) hi (fun j hj hji => placeK_ne (by omega) (by omega) hji)

end Go.Proofs.YtnkfapecbmmpeaaDoor
