/- A part of the proof. -/
import Derived.Test.YtfldiegfenndjaaGreatDoorTopAkG14
import Derived.Shelf.SlMaps.Clone
set_option linter.unusedSimpArgs false
set_option linter.unusedVariables false
namespace Go.Proofs.YtfldiegfenndjaaGreatDoor
open Go Go.Fw Go.Proofs.Tryz
set_option maxRecDepth 100000
set_option maxHeartbeats 1000000
open Go.Shelf Go.RowKit
def Tryz.laysg5_ren : Go.Shelf.Ren := ⟨fun | 5 => 162 | 7 => 195 | n => n, fun | 23 => 164 | 25 => 9 | 3 => 9 | 4 => 4 | 20 => 20 | n => n, fun | n => n⟩
theorem Tryz.laysg5 : Go.Proofs.SlLaysW.n5 prog Tryz.laysg5_ren := {
 mixed := by kernel_rfl
 f5 := ⟨f162.name, by decide, func162.trans (congrArg some (by kernel_rfl))⟩
 f7 := func195.trans (congrArg some (by kernel_rfl))
 t4 := underlying4
 a4 := b4_
 z4 := z4_
 v4 := zeroValue4
 t20 := underlying20
 a20 := isAgg20
 z20 := sizeOf20
 v20 := zeroValue20
 t23 := qLa
 a23 := isAgg164
 z23 := sizeOf164
 v23 := zeroValue164 }
theorem qMi (F : Hp) (b : Nat) (l : MP) (h : qEq F b l) : Ct prog 162 [.map (some b)] [F] (fun x : Nat × Hp => .map (some x.1)) (fun x => qO8 x.2 x.1 l) (fun x => [F, x.2]) := fun w0 w hs => by
 obtain ⟨es, c, h0, hst, hkv⟩ := h
 have hb : w.heap[b]? = some (.map es c) := hs.mem (.head _) _ _ h0
 refine (Go.Proofs.AnyW.maps_Clone Tryz.laysg5 b es c w hb).mono fun e w' ⟨he, hw⟩ => ?_
 subst hw
 exact ⟨(w.heap.size, qAK w.heap.size (.map es c)), he, ⟨es, c, rfl, hst, hkv⟩, hs.alloc _⟩
end Go.Proofs.YtfldiegfenndjaaGreatDoor
