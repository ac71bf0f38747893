/- A part of the proof. -/
import Derived.Test.YtmemgokiolfdoaaGreatDoorTopMrG26
import Derived.Test.YtmemgokiolfdoaaGreatDoorTopMrG27
import Derived.Test.YtmemgokiolfdoaaGreatDoorTopMrG14
set_option maxRecDepth 100000
set_option maxHeartbeats 1000000
set_option linter.unusedSimpArgs false
set_option linter.unusedVariables false
namespace Go.Proofs.YtmemgokiolfdoaaGreatDoor
open Go Go.Fw Go.Proofs.Tryz
def qUH(x:Aud):xA:=if qBE x.op x.rt x.ht=0 then Sha.tagged 16 [x.nm,qBQ x.op x.rt x.ht] else []
def qF0(kv:List Sm.PR)(l:List Aud):Nat→List Sm.PR
 |0=>kv
 |n+1=>Sm.putP (qF0 kv l n) (qAN n) (qUH (l.getD n qAq))
theorem qMO: ∀{l:List Sm.PR} {k:xA} (v:xA),(∀p∈l,p.1≠k)→Sm.putP l k v=l++ [(k,v)]
 | [],k,v,_=>rfl
 |p::r,k,v,h=>by rw [Sm.putP,if_neg (h p (.head _)),qMO v (λq hq=>h q (.tail _ hq))];rfl
theorem qLY(l:List Aud): ∀n,n≤15→qF0 [] l n=(List.range n).map λi=>(qAN i,qUH (l.getD i qAq))
 |0,_=>rfl
 |n+1,h=>by
  rw [qF0,qLY l n xB,qMO _ (λp hp=>?_),jz,jO];rfl
  obtain ⟨j,hj,rfl⟩:=List.mem_map.1 hp
  have:=List.mem_range.1 hj
  exact qPY xB xB xB
theorem qIs(l:List Aud){n:Nat}(h:n≤15):(qF0 [] l n).length=n:=by rw [qLY l n h,jP,zd]
end Go.Proofs.YtmemgokiolfdoaaGreatDoor