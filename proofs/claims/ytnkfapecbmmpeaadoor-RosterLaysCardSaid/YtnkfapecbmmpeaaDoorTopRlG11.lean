/- A part of the proof: contracts of functions of the program, each for every state of the heaps that it names. -/
import Derived.Test.YtnkfapecbmmpeaaDoorTopRlG10
import Derived.Shelf.Strings.Count
set_option linter.unusedSimpArgs false
set_option linter.unusedVariables false
namespace Go.Proofs.YtnkfapecbmmpeaaDoor
open Go Go.Fw
set_option maxRecDepth 100000
set_option maxHeartbeats 1000000
open Go.Shelf Go.RowKit
def Tryd.lays138_ren : Go.Shelf.Ren := ⟨fun | 138 => 179 | 195 => 173 | 218 => 196 | 143 => 197 | 219 => 212 | 217 => 221 | 225 => 222 | 224 => 223 | 267 => 224 | 266 => 226 | 314 => 227 | n => n, fun | 9 => 9 | 3 => 3 | 4 => 4 | 5 => 5 | 0 => 0 | 46 => 82 | 146 => 216 | 51 => 208 | n => n, fun | 1 => 4 | n => n⟩
theorem Tryd.lays138 : Go.Proofs.Lays.n138 Tryd.prog Tryd.lays138_ren := {
  mixed := by kernel_rfl
  f138 := Tryd.func179.trans (congrArg some (by kernel_rfl))
  f143 := Tryd.func197.trans (congrArg some (by kernel_rfl))
  f195 := Tryd.func173.trans (congrArg some (by kernel_rfl))
  f217 := Tryd.func221.trans (congrArg some (by kernel_rfl))
  f218 := Tryd.func196.trans (congrArg some (by kernel_rfl))
  f219 := Tryd.func212.trans (congrArg some (by kernel_rfl))
  f224 := Tryd.func223.trans (congrArg some (by kernel_rfl))
  f225 := Tryd.func222.trans (congrArg some (by kernel_rfl))
  f266 := Tryd.func226.trans (congrArg some (by kernel_rfl))
  f267 := Tryd.func224.trans (congrArg some (by kernel_rfl))
  f314 := Tryd.func227.trans (congrArg some (by kernel_rfl))
  t0 := Tryd.underlying0
  a0 := Tryd.isAgg0
  z0 := Tryd.sizeOf0
  v0 := Tryd.zeroValue0
  t3 := Tryd.underlying3
  a3 := Tryd.isAgg3
  z3 := Tryd.sizeOf3
  v3 := Tryd.zeroValue3
  t4 := Tryd.underlying4
  a4 := Tryd.isAgg4
  z4 := Tryd.sizeOf4
  v4 := Tryd.zeroValue4
  t5 := Tryd.underlying5
  a5 := Tryd.isAgg5
  z5 := Tryd.sizeOf5
  v5 := Tryd.zeroValue5
  t9 := Tryd.underlying9
  a9 := Tryd.isAgg9
  z9 := Tryd.sizeOf9
  v9 := Tryd.zeroValue9
  t46 := Tryd.underlying82
  a46 := Tryd.isAgg82
  z46 := Tryd.sizeOf82
  v46 := Tryd.zeroValue82
  t51 := Tryd.underlying208
  a51 := Tryd.isAgg208
  z51 := Tryd.sizeOf208
  v51 := Tryd.zeroValue208
  t146 := Tryd.underlying216
  a146 := Tryd.isAgg216
  z146 := Tryd.sizeOf216
  v146 := Tryd.zeroValue216
  g1 := by kernel_rfl }
theorem Ct.ofSame {P : Program} {f : FuncId} {vs : List Value} {F : Hp} {v : Value} (h : ∀ w, Le F (hp w) → Calls P f vs.toArray w fun e w' => e = .returned v ∧ w' = w) :
    Ct P f vs [F] (fun _ : Unit => v) (fun _ => True) (fun _ => [F]) := Ct.ofBelow fun w hw => (h w hw).mono fun _ _ ⟨he, hs⟩ => ⟨he, hs ▸ Below.refl _ _⟩
theorem scount_ct (F : Hp) (s : List UInt8) (hs : s.length ≤ 1000000) : Ct Tryd.prog 179 [Str s, Str [64]] [F] (fun _ : Unit => I ((s.count 64 : Nat) : Int)) (fun _ => True) (fun _ => [F]) := Ct.ofSame fun w hw =>
  Any.strings_Count_one Tryd.lays138 ⟨s.toArray⟩ 64 w

end Go.Proofs.YtnkfapecbmmpeaaDoor
