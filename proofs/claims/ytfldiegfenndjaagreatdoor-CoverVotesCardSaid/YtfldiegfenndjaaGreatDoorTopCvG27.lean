/- A part of the proof. -/
import Derived.Test.YtfldiegfenndjaaGreatDoorTopCvG26
import Derived.Test.YtfldiegfenndjaaGreatDoorTopCvG20
import Derived.Test.YtfldiegfenndjaaGreatDoorTopCvG14
set_option linter.unusedSimpArgs false
set_option linter.unusedVariables false
namespace Go.Proofs.YtfldiegfenndjaaGreatDoor
open Go Go.Fw Go.Proofs.Tryz
set_option maxRecDepth 100000
set_option maxHeartbeats 1000000
def qSn (x : Aud) : List UInt8 := if qBY x.op x.rt x.ht = 0 then Sha.tagged 16 [x.nm, qBM x.op x.rt x.ht] else []
def qSM (kv : List Sm.PR) (l : List Aud) : Nat → List Sm.PR
 | 0 => kv
 | n + 1 => Sm.putP (qSM kv l n) (qAM n) (qSn (l.getD n qAy))
theorem qJm : ∀ {l : List Sm.PR} {k : List UInt8} (v : List UInt8), (∀ p ∈ l, p.1 ≠ k) → Sm.putP l k v = l ++ [(k, v)]
 | [], k, v, _ => rfl
 | p :: r, k, v, h => by rw [Sm.putP, if_neg (h p (.head _)), qJm v (fun q hq => h q (.tail _ hq))]; rfl
theorem qNE (l : List Aud) : ∀ n, n ≤ 15 → qSM [] l n = (List.range n).map fun i => (qAM i, qSn (l.getD i qAy))
 | 0, _ => rfl
 | n + 1, h => by
  rw [qSM, qNE l n (by omega), qJm _ (fun p hp => ?_), List.range_succ, List.map_append]; rfl
  obtain ⟨j, hj, rfl⟩ := List.mem_map.1 hp
  have := List.mem_range.1 hj
  exact qHt (by omega) (by omega) (by omega)
end Go.Proofs.YtfldiegfenndjaaGreatDoor
