/- A part of the proof. -/
import Derived.Test.YtmemgokiolfdoaaGreatDoorTopSpG14
import Derived.Shelf.SlMaps.Clone
set_option maxRecDepth 100000
set_option maxHeartbeats 1000000
set_option linter.unusedSimpArgs false
set_option linter.unusedVariables false
namespace Go.Proofs.YtmemgokiolfdoaaGreatDoor
open Go Go.Fw Go.Proofs.Tryz
open Go.Shelf Go.RowKit
def Tryz.laysg5_ren:Go.Shelf.Ren:=⟨λ|5=>263|7=>290|n=>n,λ|23=>235|25=>9|3=>9|4=>4|20=>20|n=>n,λ|n=>n⟩
theorem Tryz.laysg5:Go.Proofs.SlLaysW.n5 prog Tryz.laysg5_ren:={
 mixed:=by kernel_rfl
 f5:=⟨f263.name,xC,func263.trans (yY some xH)⟩
 f7:=func290.trans (yY some xH)
 t4:=u4_
 a4:=b4_
 z4:=z4_
 v4:=e4_
 t20:=underlying20
 a20:=isAgg20
 z20:=sizeOf20
 v20:=zeroValue20
 t23:=qQE
 a23:=isAgg235
 z23:=sizeOf235
 v23:=zeroValue235}
theorem qRz(F:Hp)(b:Nat)(l:MP)(h:MapAt F b l):Ct prog 263 [.map (some b)] [F] (λx:Nat×Hp=> .map (some x.1)) (λx=>MapS x.2 x.1 l) (λx=> [F,x.2]):=λw0 w hs=>by
 obtain ⟨es,c,h0,hst,hkv⟩:=h
 have hb:w.heap[b]?=some (.map es c):=hs.mem (.head _) _ _ h0
 refine(Go.Proofs.AnyW.maps_Clone Tryz.laysg5 b es c w hb).mono λe w' ⟨he,hw⟩=>?_
 subst hw
 exact⟨(w.heap.size,qAd w.heap.size (.map es c)),he,⟨es,c,O,hst,hkv⟩,hs.alloc _⟩
end Go.Proofs.YtmemgokiolfdoaaGreatDoor