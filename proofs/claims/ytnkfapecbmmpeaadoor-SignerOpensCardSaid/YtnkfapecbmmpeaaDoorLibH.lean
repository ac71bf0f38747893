/- A part of the proof: contracts of functions of the program, each for every state of the heaps that it names. -/
import Derived.Test.YtnkfapecbmmpeaaDoorMkl
set_option linter.unusedSimpArgs false
set_option linter.unusedVariables false
namespace Go.Proofs.YtnkfapecbmmpeaaDoor
open Go Go.Fw
set_option maxRecDepth 100000
set_option maxHeartbeats 1000000

attribute [local irreducible] Mk.node
namespace Mk
theorem xor_val (m : Nat) : m ^^^ 1 = if m % 2 = 0 then m + 1 else m - 1 := by
  have e1 : (m ^^^ 1) / 2 = m / 2 := by rw [Nat.xor_div_two]; simp
  have e2 : (m ^^^ 1) % 2 = (m % 2) ^^^ 1 := Nat.xor_mod_two_pow (n := 1)
  rcases Nat.mod_two_eq_zero_or_one m with h | h
  · rw [h, show (0 : Nat) ^^^ 1 = 1 from rfl] at e2; rw [if_pos h]; omega
  · rw [h, show (1 : Nat) ^^^ 1 = 0 from rfl] at e2; rw [if_neg (by omega)]; omega
theorem above_get (l : List (List UInt8)) (k : Nat) : (above l)[k]? = if k < l.length / 2 then some (node (l.getD (2 * k) []) (l.getD (2 * k + 1) [])) else none := by
  unfold above
  rw [List.getElem?_map]
  by_cases h : k < l.length / 2
  · rw [if_pos h, List.getElem?_range h]; rfl
  · rw [if_neg h, List.getElem?_eq_none (by simpa using Nat.le_of_not_lt h)]; rfl
theorem getD_left {a b : List (List UInt8)} {k : Nat} (h : k < a.length) : (a ++ b).getD k [] = a.getD k [] := by
  rw [List.getD_eq_getElem?_getD, List.getElem?_append_left h, ← List.getD_eq_getElem?_getD]
theorem getD_right {a b : List (List UInt8)} {k : Nat} (h : a.length ≤ k) : (a ++ b).getD k [] = b.getD (k - a.length) [] := by
  rw [List.getD_eq_getElem?_getD, List.getElem?_append_right h, ← List.getD_eq_getElem?_getD]
theorem above_app (a b : List (List UInt8)) (h : a.length % 2 = 0) : above (a ++ b) = above a ++ above b := by
  apply List.ext_getElem?
  intro k
  rw [above_get, List.length_append]
  by_cases hk : k < (above a).length
  · rw [List.getElem?_append_left hk, above_get]
    rw [above_length] at hk
    rw [if_pos (by omega), if_pos hk, getD_left (by omega), getD_left (by omega)]
  · rw [List.getElem?_append_right (by omega), above_get]
    rw [above_length] at hk ⊢
    by_cases h2 : k - a.length / 2 < b.length / 2
    · rw [if_pos (by omega), if_pos h2, getD_right (by omega), getD_right (by omega), show 2 * k - a.length = 2 * (k - a.length / 2) by omega, show 2 * k + 1 - a.length = 2 * (k - a.length / 2) + 1 by omega]
    · rw [if_neg (by omega), if_neg h2]
theorem two_pow_even {k : Nat} (h : 0 < k) : 2 ^ k % 2 = 0 := by
  rw [show k = (k - 1) + 1 by omega, Nat.pow_succ]; omega
theorem lvl_app (X Y : List (List UInt8)) (H : Nat) (hX : X.length = 2 ^ H) : ∀ j, j ≤ H → lvl (X ++ Y) j = lvl X j ++ lvl Y j
  | 0, _ => rfl
  | j + 1, hj => by
    have hl := lvl_length X H hX j (by omega)
    show above (lvl (X ++ Y) j) = above (lvl X j) ++ above (lvl Y j)
    rw [lvl_app X Y H hX j (by omega), above_app _ _ (by rw [hl]; exact two_pow_even (by omega))]
def tx (ls : List (List UInt8)) (k : Nat) : List UInt8 := [UInt8.ofNat k] ++ (ls.getD k []).take 20
def txs (ls : List (List UInt8)) (k : Nat) : List (List UInt8) := (List.range k).map (tx ls)
theorem take_min (s : List UInt8) (k : Nat) : (s.take (min s.length k)).drop 0 = s.take k := by
  rw [List.drop_zero]
  by_cases h : s.length ≤ k
  · rw [List.take_of_length_le (by omega), List.take_of_length_le h]
  · rw [Nat.min_eq_right (by omega)]
end Mk
attribute [local irreducible] Mk.root Mk.path Mk.tx Mk.txs

end Go.Proofs.YtnkfapecbmmpeaaDoor
