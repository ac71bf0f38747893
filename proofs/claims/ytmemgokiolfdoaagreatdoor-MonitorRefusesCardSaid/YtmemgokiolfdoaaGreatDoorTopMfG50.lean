/- A part of the proof. -/
import Derived.Test.YtmemgokiolfdoaaGreatDoorRows
import Derived.JoinedCond
import Derived.KernelRfl
set_option maxRecDepth 100000
set_option maxHeartbeats 1000000
set_option linter.unusedSimpArgs false
set_option linter.unusedVariables false
namespace Go.Proofs.YtmemgokiolfdoaaGreatDoor
theorem qAN{a b:Bool}(h:a=true)(k:b=true):(a&&b)=true:=by rw [h,k];rfl
theorem qEi:laidOutB Tryz.pinned.checked.prog=true:=by kernel_rfl
theorem qEh:mapsRowed Tryz.pinned.checked.prog=true:=by kernel_rfl
theorem qEg:(Rows.monitorRefusesRow.inPlace==Tryz.pinned.checked.prog.inPlace 6)=true:=by kernel_rfl
theorem qEf:(Rows.monitorRefusesRow.unfollowed==Tryz.pinned.checked.prog.unfollowed 6)=true:=by kernel_rfl
theorem qEe:(Rows.monitorRefusesRow.recurses==Tryz.pinned.checked.prog.recurses 6)=true:=by kernel_rfl
theorem qEd:(Rows.monitorRefusesRow.named==Tryz.pinned.checked.prog.varsNamed 6)=true:=by kernel_rfl
theorem qEc:Tryz.pinned.checked.prog.stopsHeard=true:=by kernel_rfl
theorem qEb:Tryz.pinned.checked.prog.mayEnter=true:=by kernel_rfl
theorem qEa:(Rows.monitorRefusesRow.lifted==Tryz.pinned.checked.prog.liftsFinal)=true:=by kernel_rfl
theorem qD7:joinedFacts Tryz.pinned.checked.prog 6 Tryz.f6 (OpenSpec.ofChange Rows.monitorRefusesSpec).bare Rows.monitorRefusesRow=true:=by
 unfold joinedFacts
 exact(qAN (qAN (qAN (qAN (qAN (qAN (qAN (qAN (qAN (qAN (qAN (qAN (qAN (qAN (qAN (qAN (qAN (qAN (qAN (qAN (qAN (qAN (qAN (qAN (qAN (qAN (qAN (qAN (qAN (qAN (qAN (by kernel_rfl) qEi) qEh) (by kernel_rfl)) (by kernel_rfl)) (by kernel_rfl)) (by kernel_rfl)) (by kernel_rfl)) (by kernel_rfl)) qEg) qEf) qEe) qEd) (by kernel_rfl)) (by kernel_rfl)) (by kernel_rfl)) (by kernel_rfl)) (by kernel_rfl)) (by kernel_rfl)) (by kernel_rfl)) (by kernel_rfl)) (by kernel_rfl)) (by kernel_rfl)) (by kernel_rfl)) qEc) qEb) qEa) (by kernel_rfl)) (by kernel_rfl)) (by kernel_rfl)) (by kernel_rfl)) (by kernel_rfl))
end Go.Proofs.YtmemgokiolfdoaaGreatDoor