/- A part of the proof. -/
import Derived.Test.YtmemgokiolfdoaaGreatDoorTopMsG25
import Derived.Test.YtmemgokiolfdoaaGreatDoorTopMsG20
import Derived.Test.YtmemgokiolfdoaaGreatDoorTopMsG13
set_option maxRecDepth 100000
set_option maxHeartbeats 1000000
set_option linter.unusedSimpArgs false
set_option linter.unusedVariables false
namespace Go.Proofs.YtmemgokiolfdoaaGreatDoor
open Go Go.Fw Go.Proofs.Tryz
def qWE(x:Aud):xA:=if qBN x.op x.rt x.ht=0 then Sha.tagged 16 [x.nm,qBd x.op x.rt x.ht] else []
def qGP(kv:List Sm.PR)(l:List Aud):Nat→List Sm.PR
 |0=>kv
 |n+1=>Sm.putP (qGP kv l n) (qAM n) (qWE (l.getD n qAt))
theorem qNJ: ∀{l:List Sm.PR} {k:xA} (v:xA),(∀p∈l,p.1≠k)→Sm.putP l k v=l++ [(k,v)]
 | [],k,v,_=>rfl
 |p::r,k,v,h=>by rw [Sm.putP,if_neg (h p (.head _)),qNJ v (λq hq=>h q (.tail _ hq))];rfl
theorem qMW(l:List Aud): ∀n,n≤15→qGP [] l n=(List.range n).map λi=>(qAM i,qWE (l.getD i qAt))
 |0,_=>rfl
 |n+1,h=>by
  rw [qGP,qMW l n xB,qNJ _ (λp hp=>?_),jx,jO];rfl
  obtain ⟨j,hj,rfl⟩:=List.mem_map.1 hp
  have:=List.mem_range.1 hj
  exact qQu xB xB xB
theorem qJW(l:List Aud){n:Nat}(h:n≤15):(qGP [] l n).length=n:=by rw [qMW l n h,jP,zg]
end Go.Proofs.YtmemgokiolfdoaaGreatDoor