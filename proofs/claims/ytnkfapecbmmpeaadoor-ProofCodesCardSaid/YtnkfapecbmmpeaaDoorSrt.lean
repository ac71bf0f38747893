/- A part of the proof: contracts of functions of the program, each for every state of the heaps that it names. -/
import Derived.Test.YtnkfapecbmmpeaaDoorSmp
import Derived.Test.YtnkfapecbmmpeaaDoorFwN
import Derived.Shelf.Sort.Plain
import Derived.Shelf.Slices.In.SortNone
set_option linter.unusedSimpArgs false
set_option linter.unusedVariables false
namespace Go.Proofs.YtnkfapecbmmpeaaDoor
open Go Go.Fw
set_option maxRecDepth 100000
set_option maxHeartbeats 1000000
open Go.Shelf Go.RowKit
def Tryd.lays190_ren : Go.Shelf.Ren := ⟨fun | 190 => 152 | 125 => 191 | 258 => 190 | 128 => 210 | 129 => 211 | 302 => 201 | 303 => 202 | 304 => 203 | 305 => 204 | 306 => 205 | 307 => 206 | 308 => 207 | 309 => 208 | 310 => 209 | 333 => 215 | 329 => 216 | 330 => 217 | 334 => 218 | 335 => 219 | 336 => 220 | 344 => 225 | n => n, fun | 31 => 55 | 9 => 9 | 3 => 3 | 46 => 82 | 0 => 0 | 51 => 208 | 53 => 108 | 4 => 4 | 183 => 265 | 182 => 264 | 131 => 198 | 5 => 5 | 218 => 273 | 222 => 277 | 228 => 279 | 229 => 280 | n => n, fun | n => n⟩
theorem Tryd.lays190 : Go.Proofs.Lays.n190 Tryd.prog Tryd.lays190_ren := {
  mixed := by kernel_rfl
  f125 := Tryd.func191.trans (congrArg some (by kernel_rfl))
  f128 := Tryd.func210.trans (congrArg some (by kernel_rfl))
  f129 := Tryd.func211.trans (congrArg some (by kernel_rfl))
  f190 := Tryd.func152.trans (congrArg some (by kernel_rfl))
  f258 := Tryd.func190.trans (congrArg some (by kernel_rfl))
  f302 := Tryd.func201.trans (congrArg some (by kernel_rfl))
  f303 := Tryd.func202.trans (congrArg some (by kernel_rfl))
  f304 := Tryd.func203.trans (congrArg some (by kernel_rfl))
  f305 := Tryd.func204.trans (congrArg some (by kernel_rfl))
  f306 := Tryd.func205.trans (congrArg some (by kernel_rfl))
  f307 := Tryd.func206.trans (congrArg some (by kernel_rfl))
  f308 := Tryd.func207.trans (congrArg some (by kernel_rfl))
  f309 := Tryd.func208.trans (congrArg some (by kernel_rfl))
  f310 := Tryd.func209.trans (congrArg some (by kernel_rfl))
  f329 := Tryd.func216.trans (congrArg some (by kernel_rfl))
  f330 := Tryd.func217.trans (congrArg some (by kernel_rfl))
  f333 := Tryd.func215.trans (congrArg some (by kernel_rfl))
  f334 := Tryd.func218.trans (congrArg some (by kernel_rfl))
  f335 := Tryd.func219.trans (congrArg some (by kernel_rfl))
  f336 := Tryd.func220.trans (congrArg some (by kernel_rfl))
  f344 := Tryd.func225.trans (congrArg some (by kernel_rfl))
  t0 := Tryd.underlying0
  a0 := Tryd.isAgg0
  z0 := Tryd.sizeOf0
  v0 := Tryd.zeroValue0
  t3 := Tryd.underlying3
  a3 := Tryd.isAgg3
  z3 := Tryd.sizeOf3
  v3 := Tryd.zeroValue3
  t4 := Tryd.underlying4
  a4 := Tryd.isAgg4
  z4 := Tryd.sizeOf4
  v4 := Tryd.zeroValue4
  t5 := Tryd.underlying5
  a5 := Tryd.isAgg5
  z5 := Tryd.sizeOf5
  v5 := Tryd.zeroValue5
  t9 := Tryd.underlying9
  a9 := Tryd.isAgg9
  z9 := Tryd.sizeOf9
  v9 := Tryd.zeroValue9
  t31 := Tryd.underlying55
  a31 := Tryd.isAgg55
  z31 := Tryd.sizeOf55
  v31 := Tryd.zeroValue55
  t46 := Tryd.underlying82
  a46 := Tryd.isAgg82
  z46 := Tryd.sizeOf82
  v46 := Tryd.zeroValue82
  t51 := Tryd.underlying208
  a51 := Tryd.isAgg208
  z51 := Tryd.sizeOf208
  v51 := Tryd.zeroValue208
  t53 := Tryd.underlying108
  a53 := Tryd.isAgg108
  z53 := Tryd.sizeOf108
  v53 := Tryd.zeroValue108
  t131 := Tryd.underlying198
  a131 := Tryd.isAgg198
  z131 := Tryd.sizeOf198
  v131 := Tryd.zeroValue198
  t182 := Tryd.underlying264
  a182 := Tryd.isAgg264
  z182 := Tryd.sizeOf264
  v182 := Tryd.zeroValue264
  t183 := Tryd.underlying265
  a183 := Tryd.isAgg265
  z183 := Tryd.sizeOf265
  v183 := Tryd.zeroValue265
  t218 := Tryd.underlying273
  a218 := Tryd.isAgg273
  z218 := Tryd.sizeOf273
  v218 := Tryd.zeroValue273
  t222 := Tryd.underlying277
  a222 := Tryd.isAgg277
  z222 := Tryd.sizeOf277
  v222 := Tryd.zeroValue277
  t228 := Tryd.underlying279
  a228 := Tryd.isAgg279
  z228 := Tryd.sizeOf279
  v228 := Tryd.zeroValue279
  t229 := Tryd.underlying280
  a229 := Tryd.isAgg280
  z229 := Tryd.sizeOf280
  v229 := Tryd.zeroValue280 }

theorem sort_ct (F m : Hp) (A : Option Addr) (n c : Nat) (l : List (List UInt8)) (hr : Row m 9 1 A n c (strsV l)) (hn : n ≤ 1073741824) :
    Ct Tryd.prog 152 [.slice A n c] [m, F] (fun _ : Hp => .tuple #[]) (fun m' => Row m' 9 1 A n c (strsV (Sm.srt l))) (fun m' => [m', F]) :=
  Ct.ofSort Sm.srt_len (fun blk off cap ss w h1 h2 h3 => Any.slices_Sort_string Tryd.lays190 blk off cap ss w h1 h2 h3) (fun p cap w => Any.slices_Sort_string_none Tryd.lays190 p cap w) hr hn

end Go.Proofs.YtnkfapecbmmpeaaDoor
