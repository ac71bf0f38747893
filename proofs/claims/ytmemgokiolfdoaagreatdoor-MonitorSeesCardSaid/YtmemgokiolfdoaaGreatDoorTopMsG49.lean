/- A part of the proof. -/
import Derived.Test.YtmemgokiolfdoaaGreatDoorRows
import Derived.JoinedCond
import Derived.KernelRfl
set_option maxRecDepth 100000
set_option maxHeartbeats 1000000
set_option linter.unusedSimpArgs false
set_option linter.unusedVariables false
namespace Go.Proofs.YtmemgokiolfdoaaGreatDoor
theorem qAQ{a b:Bool}(h:a=true)(k:b=true):(a&&b)=true:=by rw [h,k];rfl
theorem qFp:laidOutB Tryz.pinned.checked.prog=true:=by kernel_rfl
theorem qFo:mapsRowed Tryz.pinned.checked.prog=true:=by kernel_rfl
theorem qFn:(Rows.monitorSeesRow.inPlace==Tryz.pinned.checked.prog.inPlace 5)=true:=by kernel_rfl
theorem qFm:(Rows.monitorSeesRow.unfollowed==Tryz.pinned.checked.prog.unfollowed 5)=true:=by kernel_rfl
theorem qFl:(Rows.monitorSeesRow.recurses==Tryz.pinned.checked.prog.recurses 5)=true:=by kernel_rfl
theorem qFk:(Rows.monitorSeesRow.named==Tryz.pinned.checked.prog.varsNamed 5)=true:=by kernel_rfl
theorem qFj:Tryz.pinned.checked.prog.stopsHeard=true:=by kernel_rfl
theorem qFi:Tryz.pinned.checked.prog.mayEnter=true:=by kernel_rfl
theorem qFh:(Rows.monitorSeesRow.lifted==Tryz.pinned.checked.prog.liftsFinal)=true:=by kernel_rfl
theorem qFL:joinedFacts Tryz.pinned.checked.prog 5 Tryz.f5 (OpenSpec.ofChange Rows.monitorSeesSpec).bare Rows.monitorSeesRow=true:=by
 unfold joinedFacts
 exact(qAQ (qAQ (qAQ (qAQ (qAQ (qAQ (qAQ (qAQ (qAQ (qAQ (qAQ (qAQ (qAQ (qAQ (qAQ (qAQ (qAQ (qAQ (qAQ (qAQ (qAQ (qAQ (qAQ (qAQ (qAQ (qAQ (qAQ (qAQ (qAQ (qAQ (qAQ (by kernel_rfl) qFp) qFo) (by kernel_rfl)) (by kernel_rfl)) (by kernel_rfl)) (by kernel_rfl)) (by kernel_rfl)) (by kernel_rfl)) qFn) qFm) qFl) qFk) (by kernel_rfl)) (by kernel_rfl)) (by kernel_rfl)) (by kernel_rfl)) (by kernel_rfl)) (by kernel_rfl)) (by kernel_rfl)) (by kernel_rfl)) (by kernel_rfl)) (by kernel_rfl)) (by kernel_rfl)) qFj) qFi) qFh) (by kernel_rfl)) (by kernel_rfl)) (by kernel_rfl)) (by kernel_rfl)) (by kernel_rfl))
end Go.Proofs.YtmemgokiolfdoaaGreatDoor