/- A part of the proof. -/
import Derived.Test.YtcgcjaflllmlpaaGreatDoorTopCfG22
import Derived.Test.YtcgcjaflllmlpaaGreatDoorTopCfG11
import Derived.Test.YtcgcjaflllmlpaaGreatDoorTopCfG14
set_option linter.unusedSimpArgs false
set_option linter.unusedVariables false
namespace Go.Proofs.YtcgcjaflllmlpaaGreatDoor
open Go Go.Fw Go.Proofs.Tryz
set_option maxRecDepth 100000
set_option maxHeartbeats 1000000
def qUd(x:Aud):List UInt8:=if qBH x.op x.rt x.ht=0 then Sha.tagged 16 [x.nm,qBL x.op x.rt x.ht] else []
def qFp(kv:List Sm.PR)(l:List Aud):Nat→List Sm.PR
 |0=>kv
 |n+1=>Sm.putP (qFp kv l n) (qAM n) (qUd (l.getD n qAs))
theorem qMm: ∀{l:List Sm.PR} {k:List UInt8} (v:List UInt8),(∀p∈l,p.1≠k)→Sm.putP l k v=l++ [(k,v)]
 | [],k,v,_=>rfl
 |p::r,k,v,h=>by rw [Sm.putP,if_neg (h p (.head _)),qMm v (λq hq=>h q (.tail _ hq))];rfl
theorem qLs(l:List Aud): ∀n,n≤15→qFp [] l n=(List.range n).map λi=>(qAM i,qUd (l.getD i qAs))
 |0,_=>rfl
 |n+1,h=>by
  rw [qFp,qLs l n (by omega),qMm _ (λp hp=>?_),jw,jM];rfl
  obtain ⟨j,hj,rfl⟩:=List.mem_map.1 hp
  have:=List.mem_range.1 hj
  exact qJz (by omega) (by omega) (by omega)
theorem qI0(l:List Aud){n:Nat}(h:n≤15):(qFp [] l n).length=n:=by rw [qLs l n h,jN,zV]
end Go.Proofs.YtcgcjaflllmlpaaGreatDoor
