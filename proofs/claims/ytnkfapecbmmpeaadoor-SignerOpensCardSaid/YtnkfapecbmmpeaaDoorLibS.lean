/- A part of the proof: contracts of functions of the program, each for every state of the heaps that it names. -/
import Derived.Test.YtnkfapecbmmpeaaDoorShaX
import Derived.Test.YtnkfapecbmmpeaaDoorFwU
import Derived.Test.YtnkfapecbmmpeaaDoorFwV
set_option linter.unusedSimpArgs false
set_option linter.unusedVariables false
namespace Go.Proofs.YtnkfapecbmmpeaaDoor
open Go Go.Fw
set_option maxRecDepth 100000
set_option maxHeartbeats 1000000

namespace Sha
/-- the first k texts, cut -/
def cutL (w : Nat) (ls : List (List UInt8)) (k : Nat) : List (List UInt8) := (ls.take k).map (List.take w)
theorem cutL_succ (w : Nat) (ls : List (List UInt8)) (k : Nat) (h : k < ls.length) : cutL w ls (k + 1) = cutL w ls k ++ [(ls.getD k []).take w] := by
  unfold cutL
  rw [List.take_succ_eq_append_getElem h, List.map_append, List.getD_eq_getElem?_getD, List.getElem?_eq_getElem h]; rfl
theorem cutL_flat (w : Nat) (ls : List (List UInt8)) : ∀ k, k ≤ ls.length → (cutL w ls k).flatten.length ≤ w * k
  | 0, _ => by simp [cutL]
  | k + 1, h => by
    have := cutL_flat w ls k (by omega)
    have h2 : ((ls.getD k []).take w).length ≤ w := by rw [List.length_take]; omega
    rw [cutL_succ w ls k (by omega), List.flatten_append, List.length_append, Nat.mul_add]
    simp only [List.flatten_cons, List.flatten_nil, List.append_nil, Nat.mul_one]; omega
theorem take_min (s : List UInt8) (k : Nat) : (s.take (min s.length k)).drop 0 = s.take k := by
  rw [List.drop_zero]
  by_cases h : s.length ≤ k
  · rw [Nat.min_eq_left h, List.take_length, List.take_of_length_le h]
  · rw [Nat.min_eq_right (by omega)]
end Sha
attribute [local irreducible] Sha.tagB

end Go.Proofs.YtnkfapecbmmpeaaDoor
