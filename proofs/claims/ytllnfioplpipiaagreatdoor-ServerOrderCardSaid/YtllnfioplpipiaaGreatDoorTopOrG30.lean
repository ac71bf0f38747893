/- A part of the proof. -/
import Derived.Test.YtllnfioplpipiaaGreatDoorTopOrG29
import Derived.Test.YtllnfioplpipiaaGreatDoorTopOrG25
import Derived.Test.YtllnfioplpipiaaGreatDoorTopOrG14
set_option linter.unusedSimpArgs false
set_option linter.unusedVariables false
namespace Go.Proofs.YtllnfioplpipiaaGreatDoor
open Go Go.Fw Go.Proofs.Tryz
set_option maxRecDepth 100000
set_option maxHeartbeats 1000000
theorem may_1{s:List UInt8}(h:qIz s=0)(k:UInt8):qQK s (qTu k) z16 1=0:=by
 unfold qQK
 rw [if_neg (by omega),qS8];rfl
def qRi(x:Aud):List UInt8:=if qA9 x.op x.rt x.ht=0 then Sha.tagged 16 [x.nm,qBJ x.op x.rt x.ht] else []
def qFd(kv:List Sm.PR)(l:List Aud):Nat→List Sm.PR
 |0=>kv
 |n+1=>Sm.putP (qFd kv l n) (qB3 n) (qRi (l.getD n qAq))
theorem qHB: ∀{l:List Sm.PR} {k:List UInt8} (v:List UInt8),(∀p∈l,p.1≠k)→Sm.putP l k v=l++ [(k,v)]
 | [],k,v,_=>rfl
 |p::r,k,v,h=>by rw [Sm.putP,if_neg (h p (.head _)),qHB v (λq hq=>h q (.tail _ hq))];rfl
theorem qNz(l:List Aud): ∀n,n≤15→qFd [] l n=(List.range n).map λi=>(qB3 i,qRi (l.getD i qAq))
 |0,_=>rfl
 |n+1,h=>by
  rw [qFd,qNz l n (by omega),qHB _ (λp hp=>?_),List.range_succ,List.map_append];rfl
  obtain ⟨j,hj,rfl⟩:=List.mem_map.1 hp
  have:=List.mem_range.1 hj
  exact qNQ (by omega) (by omega) (by omega)
theorem qHX(l:List Aud){n:Nat}(h:n≤15):(qFd [] l n).length=n:=by rw [qNz l n h,List.length_map,List.length_range]
end Go.Proofs.YtllnfioplpipiaaGreatDoor
