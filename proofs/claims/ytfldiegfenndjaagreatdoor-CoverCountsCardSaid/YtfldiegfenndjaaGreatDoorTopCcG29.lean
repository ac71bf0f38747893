/- A part of the proof. -/
import Derived.Test.YtfldiegfenndjaaGreatDoorTopCcG28
import Derived.Test.YtfldiegfenndjaaGreatDoorTopCcG16
import Derived.Test.YtfldiegfenndjaaGreatDoorTopCcG14
set_option linter.unusedSimpArgs false
set_option linter.unusedVariables false
namespace Go.Proofs.YtfldiegfenndjaaGreatDoor
open Go Go.Fw Go.Proofs.Tryz
set_option maxRecDepth 100000
set_option maxHeartbeats 1000000
def qTB (x : Aud) : List UInt8 := if qBd x.op x.rt x.ht = 0 then Sha.tagged 16 [x.nm, qBe x.op x.rt x.ht] else []
def qSk (kv : List Sm.PR) (l : List Aud) : Nat → List Sm.PR
 | 0 => kv
 | n + 1 => Sm.putP (qSk kv l n) (qAM n) (qTB (l.getD n qBV))
theorem qJo : ∀ {l : List Sm.PR} {k : List UInt8} (v : List UInt8), (∀ p ∈ l, p.1 ≠ k) → Sm.putP l k v = l ++ [(k, v)]
 | [], k, v, _ => rfl
 | p :: r, k, v, h => by rw [Sm.putP, if_neg (h p (.head _)), qJo v (fun q hq => h q (.tail _ hq))]; rfl
theorem qNY (l : List Aud) : ∀ n, n ≤ 15 → qSk [] l n = (List.range n).map fun i => (qAM i, qTB (l.getD i qBV))
 | 0, _ => rfl
 | n + 1, h => by
  rw [qSk, qNY l n (by omega), qJo _ (fun p hp => ?_), List.range_succ, List.map_append]; rfl
  obtain ⟨j, hj, rfl⟩ := List.mem_map.1 hp
  have := List.mem_range.1 hj
  exact qHv (by omega) (by omega) (by omega)
end Go.Proofs.YtfldiegfenndjaaGreatDoor
