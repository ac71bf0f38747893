/- A part of the proof: contracts of functions of the program, each for every state of the heaps that it names. -/
import Derived.Test.YtpcffgkmpmcobaaDoorVal
import Derived.Shelf.Strings.Count
set_option linter.unusedSimpArgs false
set_option linter.unusedVariables false
namespace Go.Proofs.YtpcffgkmpmcobaaDoor
open Go Go.Fw
set_option maxRecDepth 100000
set_option maxHeartbeats 1000000
open Go.Shelf Go.RowKit
def Tryd.lays138_ren : Go.Shelf.Ren := ⟨fun | 138 => 123 | 195 => 85 | 218 => 153 | 143 => 154 | 219 => 181 | 217 => 204 | 225 => 205 | 224 => 206 | 267 => 207 | 266 => 217 | 314 => 218 | n => n, fun | 9 => 9 | 3 => 3 | 4 => 4 | 5 => 5 | 0 => 0 | 46 => 159 | 146 => 218 | 51 => 217 | n => n, fun | 1 => 3 | n => n⟩
theorem Tryd.lays138 : Go.Proofs.Lays.n138 Tryd.prog Tryd.lays138_ren := {
  mixed := by kernel_rfl
  f138 := Tryd.func123.trans (congrArg some (by kernel_rfl))
  f143 := Tryd.func154.trans (congrArg some (by kernel_rfl))
  f195 := Tryd.func85.trans (congrArg some (by kernel_rfl))
  f217 := Tryd.func204.trans (congrArg some (by kernel_rfl))
  f218 := Tryd.func153.trans (congrArg some (by kernel_rfl))
  f219 := Tryd.func181.trans (congrArg some (by kernel_rfl))
  f224 := Tryd.func206.trans (congrArg some (by kernel_rfl))
  f225 := Tryd.func205.trans (congrArg some (by kernel_rfl))
  f266 := Tryd.func217.trans (congrArg some (by kernel_rfl))
  f267 := Tryd.func207.trans (congrArg some (by kernel_rfl))
  f314 := Tryd.func218.trans (congrArg some (by kernel_rfl))
  t0 := Tryd.underlying0
  a0 := Tryd.isAgg0
  z0 := Tryd.sizeOf0
  v0 := Tryd.zeroValue0
  t3 := Tryd.underlying3
  a3 := Tryd.isAgg3
  z3 := Tryd.sizeOf3
  v3 := Tryd.zeroValue3
  t4 := Tryd.underlying4
  a4 := Tryd.isAgg4
  z4 := Tryd.sizeOf4
  v4 := Tryd.zeroValue4
  t5 := Tryd.underlying5
  a5 := Tryd.isAgg5
  z5 := Tryd.sizeOf5
  v5 := Tryd.zeroValue5
  t9 := Tryd.underlying9
  a9 := Tryd.isAgg9
  z9 := Tryd.sizeOf9
  v9 := Tryd.zeroValue9
  t46 := Tryd.underlying159
  a46 := Tryd.isAgg159
  z46 := Tryd.sizeOf159
  v46 := Tryd.zeroValue159
  t51 := Tryd.underlying217
  a51 := Tryd.isAgg217
  z51 := Tryd.sizeOf217
  v51 := Tryd.zeroValue217
  t146 := Tryd.underlying218
  a146 := Tryd.isAgg218
  z146 := Tryd.sizeOf218
  v146 := Tryd.zeroValue218
  g1 := by kernel_rfl }
theorem Ct.ofSame {P : Program} {f : FuncId} {vs : List Value} {F : Hp} {v : Value} (h : ∀ w, Le F (hp w) → Calls P f vs.toArray w fun e w' => e = .returned v ∧ w' = w) :
    Ct P f vs [F] (fun _ : Unit => v) (fun _ => True) (fun _ => [F]) := Ct.ofBelow fun w hw => (h w hw).mono fun _ _ ⟨he, hs⟩ => ⟨he, hs ▸ Below.refl _ _⟩
theorem scount_ct (F : Hp) (s : List UInt8) (hs : s.length ≤ 1000000) : Ct Tryd.prog 123 [Str s, Str [64]] [F] (fun _ : Unit => I ((s.count 64 : Nat) : Int)) (fun _ => True) (fun _ => [F]) := Ct.ofSame fun w hw =>
  Any.strings_Count_one Tryd.lays138 ⟨s.toArray⟩ 64 w

end Go.Proofs.YtpcffgkmpmcobaaDoor
