/- A part of the proof. -/
import Derived.Test.YtmemgokiolfdoaaGreatDoorRows
import Derived.JoinedCond
import Derived.KernelRfl
set_option maxRecDepth 100000
set_option maxHeartbeats 1000000
set_option linter.unusedSimpArgs false
set_option linter.unusedVariables false
namespace Go.Proofs.YtmemgokiolfdoaaGreatDoor
theorem qAS{a b:Bool}(h:a=true)(k:b=true):(a&&b)=true:=by rw [h,k];rfl
theorem qF3:laidOutB Tryz.pinned.checked.prog=true:=by kernel_rfl
theorem qF2:mapsRowed Tryz.pinned.checked.prog=true:=by kernel_rfl
theorem qF1:(Rows.serverPlaysRow.inPlace==Tryz.pinned.checked.prog.inPlace 3)=true:=by kernel_rfl
theorem qF0:(Rows.serverPlaysRow.unfollowed==Tryz.pinned.checked.prog.unfollowed 3)=true:=by kernel_rfl
theorem qFz:(Rows.serverPlaysRow.recurses==Tryz.pinned.checked.prog.recurses 3)=true:=by kernel_rfl
theorem qFy:(Rows.serverPlaysRow.named==Tryz.pinned.checked.prog.varsNamed 3)=true:=by kernel_rfl
theorem qFx:Tryz.pinned.checked.prog.stopsHeard=true:=by kernel_rfl
theorem qFw:Tryz.pinned.checked.prog.mayEnter=true:=by kernel_rfl
theorem qFv:(Rows.serverPlaysRow.lifted==Tryz.pinned.checked.prog.liftsFinal)=true:=by kernel_rfl
theorem qFM:joinedFacts Tryz.pinned.checked.prog 3 Tryz.f3 (OpenSpec.ofChange Rows.serverPlaysSpec).bare Rows.serverPlaysRow=true:=by
 unfold joinedFacts
 exact(qAS (qAS (qAS (qAS (qAS (qAS (qAS (qAS (qAS (qAS (qAS (qAS (qAS (qAS (qAS (qAS (qAS (qAS (qAS (qAS (qAS (qAS (qAS (qAS (qAS (qAS (qAS (qAS (qAS (qAS (qAS (by kernel_rfl) qF3) qF2) (by kernel_rfl)) (by kernel_rfl)) (by kernel_rfl)) (by kernel_rfl)) (by kernel_rfl)) (by kernel_rfl)) qF1) qF0) qFz) qFy) (by kernel_rfl)) (by kernel_rfl)) (by kernel_rfl)) (by kernel_rfl)) (by kernel_rfl)) (by kernel_rfl)) (by kernel_rfl)) (by kernel_rfl)) (by kernel_rfl)) (by kernel_rfl)) (by kernel_rfl)) qFx) qFw) qFv) (by kernel_rfl)) (by kernel_rfl)) (by kernel_rfl)) (by kernel_rfl)) (by kernel_rfl))
end Go.Proofs.YtmemgokiolfdoaaGreatDoor