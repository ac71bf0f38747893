/- A part of the proof. -/
import Derived.Test.YtmemgokiolfdoaaGreatDoorRows
import Derived.JoinedCond
import Derived.KernelRfl
set_option maxRecDepth 100000
set_option maxHeartbeats 1000000
set_option linter.unusedSimpArgs false
set_option linter.unusedVariables false
namespace Go.Proofs.YtmemgokiolfdoaaGreatDoor
theorem qAO{a b:Bool}(h:a=true)(k:b=true):(a&&b)=true:=by rw [h,k];rfl
theorem qE1:laidOutB Tryz.pinned.checked.prog=true:=by kernel_rfl
theorem qE0:mapsRowed Tryz.pinned.checked.prog=true:=by kernel_rfl
theorem qEz:(Rows.monitorReadsRow.inPlace==Tryz.pinned.checked.prog.inPlace 4)=true:=by kernel_rfl
theorem qEy:(Rows.monitorReadsRow.unfollowed==Tryz.pinned.checked.prog.unfollowed 4)=true:=by kernel_rfl
theorem qEx:(Rows.monitorReadsRow.recurses==Tryz.pinned.checked.prog.recurses 4)=true:=by kernel_rfl
theorem qEw:(Rows.monitorReadsRow.named==Tryz.pinned.checked.prog.varsNamed 4)=true:=by kernel_rfl
theorem qEv:Tryz.pinned.checked.prog.stopsHeard=true:=by kernel_rfl
theorem qEu:Tryz.pinned.checked.prog.mayEnter=true:=by kernel_rfl
theorem qEt:(Rows.monitorReadsRow.lifted==Tryz.pinned.checked.prog.liftsFinal)=true:=by kernel_rfl
theorem qER:joinedFacts Tryz.pinned.checked.prog 4 Tryz.f4 (OpenSpec.ofChange Rows.monitorReadsSpec).bare Rows.monitorReadsRow=true:=by
 unfold joinedFacts
 exact(qAO (qAO (qAO (qAO (qAO (qAO (qAO (qAO (qAO (qAO (qAO (qAO (qAO (qAO (qAO (qAO (qAO (qAO (qAO (qAO (qAO (qAO (qAO (qAO (qAO (qAO (qAO (qAO (qAO (qAO (qAO (by kernel_rfl) qE1) qE0) (by kernel_rfl)) (by kernel_rfl)) (by kernel_rfl)) (by kernel_rfl)) (by kernel_rfl)) (by kernel_rfl)) qEz) qEy) qEx) qEw) (by kernel_rfl)) (by kernel_rfl)) (by kernel_rfl)) (by kernel_rfl)) (by kernel_rfl)) (by kernel_rfl)) (by kernel_rfl)) (by kernel_rfl)) (by kernel_rfl)) (by kernel_rfl)) (by kernel_rfl)) qEv) qEu) qEt) (by kernel_rfl)) (by kernel_rfl)) (by kernel_rfl)) (by kernel_rfl)) (by kernel_rfl))
end Go.Proofs.YtmemgokiolfdoaaGreatDoor