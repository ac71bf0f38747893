/- A part of the proof: contracts of functions of the program, each for every state of the heaps that it names. -/
import Derived.Test.YtnkfapecbmmpeaaDoorSmt7
import Derived.Test.YtnkfapecbmmpeaaDoorFwR
set_option linter.unusedSimpArgs false
set_option linter.unusedVariables false
namespace Go.Proofs.YtnkfapecbmmpeaaDoor
open Go Go.Fw
set_option maxRecDepth 100000
set_option maxHeartbeats 1000000

theorem keys_at {kv : List Sm.PR} (h : Sm.Once kv) {i : Nat} (h1 : 1 ≤ i) (hi : i < (Sm.keysS kv).length) : (Sm.keysS kv).getD (i - 1) [] < (Sm.keysS kv).getD i [] := by
  have := List.pairwise_iff_getElem.1 (Sm.keysS_lt h) (i - 1) i (by omega) hi (by omega)
  rw [List.getD_eq_getElem?_getD, List.getElem?_eq_getElem (show i - 1 < (Sm.keysS kv).length by omega), List.getD_eq_getElem?_getD, List.getElem?_eq_getElem hi]
  exact this
theorem getP_snoc : ∀ (l : List Sm.PR) (p : Sm.PR) (k : List UInt8), p.1 ≠ k → Sm.getP (l ++ [p]) k = Sm.getP l k
  | [], p, k, h => by show (if p.1 = k then _ else _) = _; rw [if_neg h]
  | q :: r, p, k, h => by
    show (if q.1 = k then some q.2 else Sm.getP (r ++ [p]) k) = _
    rw [getP_snoc r p k h, Sm.getP]
theorem look_take {m : List Pr} {kv : List Sm.PR} (hp : Pairs m kv) {j : Nat} (hj : j < m.length) (k : List UInt8) :
    Sm.getP ((m.take (j + 1)).map toP) k = if (m.getD j noPr).k = k then some (m.getD j noPr).v else Sm.getP ((m.take j).map toP) k := by
  have e : m.getD j noPr = m[j] := by rw [List.getD_eq_getElem?_getD, List.getElem?_eq_getElem hj]; rfl
  rw [e]
  by_cases h : m[j].k = k
  · rw [if_pos h]
    have ho : Sm.Once ((m.take (j + 1)).map toP) := hp.once.sublist ((List.take_sublist _ _).map _)
    have hmem : toP m[j] ∈ (m.take (j + 1)).map toP := List.mem_map.2 ⟨m[j], List.mem_take_iff_getElem.2 ⟨j, by omega, rfl⟩, rfl⟩
    have := Sm.getP_mem ho hmem
    rw [show (toP m[j]).1 = k from h] at this
    exact this
  · rw [if_neg h, List.take_succ_eq_append_getElem hj, List.map_append]
    exact getP_snoc _ (toP m[j]) k h


end Go.Proofs.YtnkfapecbmmpeaaDoor
