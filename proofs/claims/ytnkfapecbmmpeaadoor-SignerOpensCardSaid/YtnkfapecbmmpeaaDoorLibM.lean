/- A part of the proof: contracts of functions of the program, each for every state of the heaps that it names. -/
import Derived.Test.YtnkfapecbmmpeaaDoorLibH
import Derived.Test.YtnkfapecbmmpeaaDoorLibS
import Derived.Test.YtnkfapecbmmpeaaDoorRef3
set_option linter.unusedSimpArgs false
set_option linter.unusedVariables false
namespace Go.Proofs.YtnkfapecbmmpeaaDoor
open Go Go.Fw
set_option maxRecDepth 100000
set_option maxHeartbeats 1000000
attribute [local irreducible] Mk.node

namespace Mk
theorem climb_snoc (s : List UInt8) : ∀ (p : List (List UInt8)) (x : List UInt8) (i : Nat), climb x i (p ++ [s]) = if i / 2 ^ p.length % 2 = 0 then node (climb x i p) s else node s (climb x i p)
  | [], x, i => by simp [climb]
  | a :: p, x, i => by
    rw [List.cons_append, climb, climb, climb_snoc s p, List.length_cons, Nat.pow_succ, Nat.mul_comm, ← Nat.div_div_eq_div_mul]
theorem climb_lvl (l : List (List UInt8)) (h i : Nat) (hl : l.length = 2 ^ h) (hi : i < 2 ^ h) : ∀ j, j ≤ h → climb (l.getD i []) i (path l i j) = (lvl l j).getD (i / 2 ^ j) []
  | 0, _ => by simp [path, climb, lvl]
  | j + 1, hj => by
    have hlen := lvl_length l h hl j (by omega)
    have h1 : i / 2 ^ j < 2 ^ (h - j) := by rw [Nat.div_lt_iff_lt_mul (Nat.two_pow_pos j), ← Nat.pow_add, show h - j + j = h by omega]; exact hi
    have h2 := two_pow_even (show 0 < h - j by omega)
    rw [path_succ, climb_snoc, climb_lvl l h i hl hi j (by omega), path_length, Nat.pow_succ, ← Nat.div_div_eq_div_mul]
    generalize i / 2 ^ j = q at *
    rw [show lvl l (j + 1) = above (lvl l j) from rfl, List.getD_eq_getElem?_getD (l := above (lvl l j)), above_get, hlen, if_pos (show q / 2 < 2 ^ (h - j) / 2 by omega), xor_val]
    split
    · rename_i e
      rw [show 2 * (q / 2) = q by omega]; rfl
    · rename_i e
      rw [show 2 * (q / 2) = q - 1 by omega, show q - 1 + 1 = q by omega]; rfl
theorem climb_root (l : List (List UInt8)) (h i : Nat) (hl : l.length = 2 ^ h) (hi : i < 2 ^ h) : climb (l.getD i []) i (path l i h) = root l h := by
  rw [climb_lvl l h i hl hi h (Nat.le_refl _), Nat.div_eq_of_lt hi]; rfl
/-- so many texts, cut; the empty one behind the last -/
def fillL (w : Nat) (ls : List (List UInt8)) (k : Nat) : List (List UInt8) := (List.range k).map fun j => (ls.getD j []).take w
theorem flat_small {ls : List (List UInt8)} {w : Nat} (h : ∀ s ∈ ls, s.length ≤ w) : ls.flatten.length ≤ w * ls.length := by
  induction ls with
  | nil => simp
  | cons a l ih =>
    have := ih (fun s hs => h s (.tail _ hs))
    have h2 := h a (.head _)
    rw [List.flatten_cons, List.length_append, List.length_cons, Nat.mul_add]; omega
end Mk
namespace Sha
end Sha
attribute [local irreducible] Sha.tagB Mk.root Mk.path

end Go.Proofs.YtnkfapecbmmpeaaDoor
