/- A part of the proof: contracts of functions of the program, each for every state of the heaps that it names. -/
import Derived.Test.YtpcffgkmpmcobaaDoorSmp
import Derived.Test.YtpcffgkmpmcobaaDoorFwN
import Derived.Shelf.Sort.Plain
import Derived.Shelf.Slices.In.SortNone
set_option linter.unusedSimpArgs false
set_option linter.unusedVariables false
namespace Go.Proofs.YtpcffgkmpmcobaaDoor
open Go Go.Fw
set_option maxRecDepth 100000
set_option maxHeartbeats 1000000
open Go.Shelf Go.RowKit
def Tryd.lays190_ren : Go.Shelf.Ren := ⟨fun | 190 => 146 | 125 => 176 | 258 => 175 | 128 => 200 | 129 => 201 | 302 => 191 | 303 => 192 | 304 => 193 | 305 => 194 | 306 => 195 | 307 => 196 | 308 => 197 | 309 => 198 | 310 => 199 | 333 => 211 | 329 => 212 | 330 => 213 | 334 => 214 | 335 => 215 | 336 => 216 | 344 => 220 | n => n, fun | 31 => 36 | 9 => 9 | 3 => 3 | 46 => 159 | 0 => 0 | 51 => 217 | 53 => 134 | 4 => 4 | 183 => 255 | 182 => 254 | 131 => 32 | 5 => 5 | 218 => 270 | 222 => 274 | 228 => 278 | 229 => 116 | n => n, fun | n => n⟩
theorem Tryd.lays190 : Go.Proofs.Lays.n190 Tryd.prog Tryd.lays190_ren := {
  mixed := by kernel_rfl
  f125 := Tryd.func176.trans (congrArg some (by kernel_rfl))
  f128 := Tryd.func200.trans (congrArg some (by kernel_rfl))
  f129 := Tryd.func201.trans (congrArg some (by kernel_rfl))
  f190 := Tryd.func146.trans (congrArg some (by kernel_rfl))
  f258 := Tryd.func175.trans (congrArg some (by kernel_rfl))
  f302 := Tryd.func191.trans (congrArg some (by kernel_rfl))
  f303 := Tryd.func192.trans (congrArg some (by kernel_rfl))
  f304 := Tryd.func193.trans (congrArg some (by kernel_rfl))
  f305 := Tryd.func194.trans (congrArg some (by kernel_rfl))
  f306 := Tryd.func195.trans (congrArg some (by kernel_rfl))
  f307 := Tryd.func196.trans (congrArg some (by kernel_rfl))
  f308 := Tryd.func197.trans (congrArg some (by kernel_rfl))
  f309 := Tryd.func198.trans (congrArg some (by kernel_rfl))
  f310 := Tryd.func199.trans (congrArg some (by kernel_rfl))
  f329 := Tryd.func212.trans (congrArg some (by kernel_rfl))
  f330 := Tryd.func213.trans (congrArg some (by kernel_rfl))
  f333 := Tryd.func211.trans (congrArg some (by kernel_rfl))
  f334 := Tryd.func214.trans (congrArg some (by kernel_rfl))
  f335 := Tryd.func215.trans (congrArg some (by kernel_rfl))
  f336 := Tryd.func216.trans (congrArg some (by kernel_rfl))
  f344 := Tryd.func220.trans (congrArg some (by kernel_rfl))
  t0 := Tryd.underlying0
  a0 := Tryd.isAgg0
  z0 := Tryd.sizeOf0
  v0 := Tryd.zeroValue0
  t3 := Tryd.underlying3
  a3 := Tryd.isAgg3
  z3 := Tryd.sizeOf3
  v3 := Tryd.zeroValue3
  t4 := Tryd.underlying4
  a4 := Tryd.isAgg4
  z4 := Tryd.sizeOf4
  v4 := Tryd.zeroValue4
  t5 := Tryd.underlying5
  a5 := Tryd.isAgg5
  z5 := Tryd.sizeOf5
  v5 := Tryd.zeroValue5
  t9 := Tryd.underlying9
  a9 := Tryd.isAgg9
  z9 := Tryd.sizeOf9
  v9 := Tryd.zeroValue9
  t31 := Tryd.underlying36
  a31 := Tryd.isAgg36
  z31 := Tryd.sizeOf36
  v31 := Tryd.zeroValue36
  t46 := Tryd.underlying159
  a46 := Tryd.isAgg159
  z46 := Tryd.sizeOf159
  v46 := Tryd.zeroValue159
  t51 := Tryd.underlying217
  a51 := Tryd.isAgg217
  z51 := Tryd.sizeOf217
  v51 := Tryd.zeroValue217
  t53 := Tryd.underlying134
  a53 := Tryd.isAgg134
  z53 := Tryd.sizeOf134
  v53 := Tryd.zeroValue134
  t131 := Tryd.underlying32
  a131 := Tryd.isAgg32
  z131 := Tryd.sizeOf32
  v131 := Tryd.zeroValue32
  t182 := Tryd.underlying254
  a182 := Tryd.isAgg254
  z182 := Tryd.sizeOf254
  v182 := Tryd.zeroValue254
  t183 := Tryd.underlying255
  a183 := Tryd.isAgg255
  z183 := Tryd.sizeOf255
  v183 := Tryd.zeroValue255
  t218 := Tryd.underlying270
  a218 := Tryd.isAgg270
  z218 := Tryd.sizeOf270
  v218 := Tryd.zeroValue270
  t222 := Tryd.underlying274
  a222 := Tryd.isAgg274
  z222 := Tryd.sizeOf274
  v222 := Tryd.zeroValue274
  t228 := Tryd.underlying278
  a228 := Tryd.isAgg278
  z228 := Tryd.sizeOf278
  v228 := Tryd.zeroValue278
  t229 := Tryd.underlying116
  a229 := Tryd.isAgg116
  z229 := Tryd.sizeOf116
  v229 := Tryd.zeroValue116 }

theorem sort_ct (F m : Hp) (A : Option Addr) (n c : Nat) (l : List (List UInt8)) (hr : Row m 9 1 A n c (strsV l)) (hn : n ≤ 1073741824) :
    Ct Tryd.prog 146 [.slice A n c] [m, F] (fun _ : Hp => .tuple #[]) (fun m' => Row m' 9 1 A n c (strsV (Sm.srt l))) (fun m' => [m', F]) :=
  Ct.ofSort Sm.srt_len (fun blk off cap ss w h1 h2 h3 => Any.slices_Sort_string Tryd.lays190 blk off cap ss w h1 h2 h3) (fun p cap w => Any.slices_Sort_string_none Tryd.lays190 p cap w) hr hn

end Go.Proofs.YtpcffgkmpmcobaaDoor
