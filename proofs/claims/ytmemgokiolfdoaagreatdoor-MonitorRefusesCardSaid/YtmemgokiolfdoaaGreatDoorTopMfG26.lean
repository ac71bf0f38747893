/- A part of the proof. -/
import Derived.Test.YtmemgokiolfdoaaGreatDoorTopMfG25
import Derived.Test.YtmemgokiolfdoaaGreatDoorTopMfG20
import Derived.Test.YtmemgokiolfdoaaGreatDoorTopMfG13
set_option maxRecDepth 100000
set_option maxHeartbeats 1000000
set_option linter.unusedSimpArgs false
set_option linter.unusedVariables false
namespace Go.Proofs.YtmemgokiolfdoaaGreatDoor
open Go Go.Fw Go.Proofs.Tryz
def qVk(x:Aud):xA:=if qBL x.op x.rt x.ht=0 then Sha.tagged 16 [x.nm,qBM x.op x.rt x.ht] else []
def qGZ(kv:List Sm.PR)(l:List Aud):Nat→List Sm.PR
 |0=>kv
 |n+1=>Sm.putP (qGZ kv l n) (qAO n) (qVk (l.getD n qAu))
theorem qNF: ∀{l:List Sm.PR} {k:xA} (v:xA),(∀p∈l,p.1≠k)→Sm.putP l k v=l++ [(k,v)]
 | [],k,v,_=>rfl
 |p::r,k,v,h=>by rw [Sm.putP,if_neg (h p (.head _)),qNF v (λq hq=>h q (.tail _ hq))];rfl
theorem qMP(l:List Aud): ∀n,n≤15→qGZ [] l n=(List.range n).map λi=>(qAO i,qVk (l.getD i qAu))
 |0,_=>rfl
 |n+1,h=>by
  rw [qGZ,qMP l n xB,qNF _ (λp hp=>?_),zA,jN];rfl
  obtain ⟨j,hj,rfl⟩:=List.mem_map.1 hp
  have:=List.mem_range.1 hj
  exact qQa xB xB xB
theorem qJW(l:List Aud){n:Nat}(h:n≤15):(qGZ [] l n).length=n:=by rw [qMP l n h,jQ,yC]
end Go.Proofs.YtmemgokiolfdoaaGreatDoor