/- A part of the proof. -/
import Derived.Test.YtcgcjaflllmlpaaGreatDoorTopCkG22
import Derived.Test.YtcgcjaflllmlpaaGreatDoorTopCkG14
set_option maxRecDepth 100000
set_option maxHeartbeats 1000000
set_option linter.unusedSimpArgs false
set_option linter.unusedVariables false
namespace Go.Proofs.YtcgcjaflllmlpaaGreatDoor
open Go Go.Fw Go.Proofs.Tryz
def qVH(x:Aud):xA:=if qBJ x.op x.rt x.ht=0 then Sha.tagged 16 [x.nm,qBM x.op x.rt x.ht] else []
def qGE(kv:List Sm.PR)(l:List Aud):Nat→List Sm.PR
 |0=>kv
 |n+1=>Sm.putP (qGE kv l n) (qAL n) (qVH (l.getD n qAu))
theorem qNC: ∀{l:List Sm.PR} {k:xA} (v:xA),(∀p∈l,p.1≠k)→Sm.putP l k v=l++ [(k,v)]
 | [],k,v,_=>rfl
 |p::r,k,v,h=>by rw [Sm.putP,if_neg (h p (.head _)),qNC v (λq hq=>h q (.tail _ hq))];rfl
theorem qMH(l:List Aud): ∀n,n≤15→qGE [] l n=(List.range n).map λi=>(qAL i,qVH (l.getD i qAu))
 |0,_=>rfl
 |n+1,h=>by
  rw [qGE,qMH l n xB,qNC _ (λp hp=>?_),jx,jM];rfl
  obtain ⟨j,hj,rfl⟩:=List.mem_map.1 hp
  have:=List.mem_range.1 hj
  exact qKK xB xB xB
theorem qJQ(l:List Aud){n:Nat}(h:n≤15):(qGE [] l n).length=n:=by rw [qMH l n h,jO,zX]
end Go.Proofs.YtcgcjaflllmlpaaGreatDoor