/- A part of the proof: contracts of functions of the program, each for every state of the heaps that it names. -/
import Derived.Test.YtnkfapecbmmpeaaDoorTopRlG23
import Derived.Test.YtnkfapecbmmpeaaDoorTopRlG22
import Derived.Shelf.Sort.Plain
import Derived.Shelf.Slices.In.SortNone
import Derived.Test.YtnkfapecbmmpeaaDoorTopRlG26
import Derived.Test.YtnkfapecbmmpeaaDoorTopRlG4
set_option linter.unusedSimpArgs false
set_option linter.unusedVariables false
namespace Go.Proofs.YtnkfapecbmmpeaaDoor
open Go Go.Fw
set_option maxRecDepth 100000
set_option maxHeartbeats 1000000
open Go.Shelf Go.RowKit
def Tryd.lays190_ren : Go.Shelf.Ren := ⟨fun | 190 => 152 | 125 => 191 | 258 => 190 | 128 => 210 | 129 => 211 | 302 => 201 | 303 => 202 | 304 => 203 | 305 => 204 | 306 => 205 | 307 => 206 | 308 => 207 | 309 => 208 | 310 => 209 | 333 => 215 | 329 => 216 | 330 => 217 | 334 => 218 | 335 => 219 | 336 => 220 | 344 => 225 | n => n, fun | 31 => 55 | 9 => 9 | 3 => 3 | 46 => 82 | 0 => 0 | 51 => 208 | 53 => 108 | 4 => 4 | 183 => 265 | 182 => 264 | 131 => 198 | 5 => 5 | 218 => 273 | 222 => 277 | 228 => 279 | 229 => 280 | n => n, fun | n => n⟩
theorem Tryd.lays190 : Go.Proofs.Lays.n190 Tryd.prog Tryd.lays190_ren := {
  mixed := by kernel_rfl
  f125 := Tryd.func191.trans (congrArg some (by kernel_rfl))
  f128 := Tryd.func210.trans (congrArg some (by kernel_rfl))
  f129 := Tryd.func211.trans (congrArg some (by kernel_rfl))
  f190 := Tryd.func152.trans (congrArg some (by kernel_rfl))
  f258 := Tryd.func190.trans (congrArg some (by kernel_rfl))
  f302 := Tryd.func201.trans (congrArg some (by kernel_rfl))
  f303 := Tryd.func202.trans (congrArg some (by kernel_rfl))
  f304 := Tryd.func203.trans (congrArg some (by kernel_rfl))
  f305 := Tryd.func204.trans (congrArg some (by kernel_rfl))
  f306 := Tryd.func205.trans (congrArg some (by kernel_rfl))
  f307 := Tryd.func206.trans (congrArg some (by kernel_rfl))
  f308 := Tryd.func207.trans (congrArg some (by kernel_rfl))
  f309 := Tryd.func208.trans (congrArg some (by kernel_rfl))
  f310 := Tryd.func209.trans (congrArg some (by kernel_rfl))
  f329 := Tryd.func216.trans (congrArg some (by kernel_rfl))
  f330 := Tryd.func217.trans (congrArg some (by kernel_rfl))
  f333 := Tryd.func215.trans (congrArg some (by kernel_rfl))
  f334 := Tryd.func218.trans (congrArg some (by kernel_rfl))
  f335 := Tryd.func219.trans (congrArg some (by kernel_rfl))
  f336 := Tryd.func220.trans (congrArg some (by kernel_rfl))
  f344 := Tryd.func225.trans (congrArg some (by kernel_rfl))
  t0 := Tryd.underlying0
  a0 := Tryd.isAgg0
  z0 := Tryd.sizeOf0
  v0 := Tryd.zeroValue0
  t3 := Tryd.underlying3
  a3 := Tryd.isAgg3
  z3 := Tryd.sizeOf3
  v3 := Tryd.zeroValue3
  t4 := Tryd.underlying4
  a4 := Tryd.isAgg4
  z4 := Tryd.sizeOf4
  v4 := Tryd.zeroValue4
  t5 := Tryd.underlying5
  a5 := Tryd.isAgg5
  z5 := Tryd.sizeOf5
  v5 := Tryd.zeroValue5
  t9 := Tryd.underlying9
  a9 := Tryd.isAgg9
  z9 := Tryd.sizeOf9
  v9 := Tryd.zeroValue9
  t31 := Tryd.underlying55
  a31 := Tryd.isAgg55
  z31 := Tryd.sizeOf55
  v31 := Tryd.zeroValue55
  t46 := Tryd.underlying82
  a46 := Tryd.isAgg82
  z46 := Tryd.sizeOf82
  v46 := Tryd.zeroValue82
  t51 := Tryd.underlying208
  a51 := Tryd.isAgg208
  z51 := Tryd.sizeOf208
  v51 := Tryd.zeroValue208
  t53 := Tryd.underlying108
  a53 := Tryd.isAgg108
  z53 := Tryd.sizeOf108
  v53 := Tryd.zeroValue108
  t131 := Tryd.underlying198
  a131 := Tryd.isAgg198
  z131 := Tryd.sizeOf198
  v131 := Tryd.zeroValue198
  t182 := Tryd.underlying264
  a182 := Tryd.isAgg264
  z182 := Tryd.sizeOf264
  v182 := Tryd.zeroValue264
  t183 := Tryd.underlying265
  a183 := Tryd.isAgg265
  z183 := Tryd.sizeOf265
  v183 := Tryd.zeroValue265
  t218 := Tryd.underlying273
  a218 := Tryd.isAgg273
  z218 := Tryd.sizeOf273
  v218 := Tryd.zeroValue273
  t222 := Tryd.underlying277
  a222 := Tryd.isAgg277
  z222 := Tryd.sizeOf277
  v222 := Tryd.zeroValue277
  t228 := Tryd.underlying279
  a228 := Tryd.isAgg279
  z228 := Tryd.sizeOf279
  v228 := Tryd.zeroValue279
  t229 := Tryd.underlying280
  a229 := Tryd.isAgg280
  z229 := Tryd.sizeOf280
  v229 := Tryd.zeroValue280 }

theorem sort_ct (F m : Hp) (A : Option Addr) (n c : Nat) (l : List (List UInt8)) (hr : Row m 9 1 A n c (strsV l)) (hn : n ≤ 1073741824) :
    Ct Tryd.prog 152 [.slice A n c] [m, F] (fun _ : Hp => .tuple #[]) (fun m' => Row m' 9 1 A n c (strsV (Sm.srt l))) (fun m' => [m', F]) :=
  Ct.ofSort Sm.srt_len (fun blk off cap ss w h1 h2 h3 => Any.slices_Sort_string Tryd.lays190 blk off cap ss w h1 h2 h3) (fun p cap w => Any.slices_Sort_string_none Tryd.lays190 p cap w) hr hn

end Go.Proofs.YtnkfapecbmmpeaaDoor

namespace Go.Proofs.YtnkfapecbmmpeaaDoor
open Go Go.Fw
set_option maxRecDepth 100000
set_option maxHeartbeats 1000000
theorem ent109 : Enters Tryd.prog 109 := Enters.of Tryd.func109 rfl (by kernel_rfl)
theorem ent110 : Enters Tryd.prog 110 := Enters.of Tryd.func110 rfl (by kernel_rfl)
theorem ent151 : Enters Tryd.prog 151 := Enters.of Tryd.func151 rfl (by kernel_rfl)
theorem ent152 : Enters Tryd.prog 152 := Enters.of Tryd.func152 rfl (by kernel_rfl)
theorem ent153 : Enters Tryd.prog 153 := Enters.of Tryd.func153 rfl (by kernel_rfl)
theorem ent189 : Enters Tryd.prog 189 := Enters.of Tryd.func189 rfl (by kernel_rfl)

theorem mkeys_ct (F : Hp) (gm : Nat) : Ct Tryd.prog 110 [.map (some gm)] [F] (fun g : Nat => .func (.func 153) #[] #[Ptr g]) (fun _ => True) (fun g => [F, blk g [.map (some gm)] 93]) := by
  refine Ct.walk Tryd.func110 rfl Tryd.ntmps110 rfl (fun w0 hw0 => ?_)
  change J _ [(0, _)] _ _ _
  refine J.seq (fun K1 hK1 => ?_)
  refine J.region ?_
  refine J.e (op_box (l := [.map (some gm)]) rfl rfl rfl) rfl rfl rfl ?_
  intro g1 _
  change J _ _ _ [F, blk g1 [.map (some gm)] 93] _
  refine J.y (op_assign rfl rfl) rfl rfl rfl ?_
  refine J.nil ?_
  refine J.then_n (J.k hK1 ?_)
  refine J.keepE [(1, _)] ⟨rfl, trivial⟩ ?_
  refine J.seq (fun K2 hK2 => ?_)
  refine J.region ?_
  refine J.y (op_makeFunc rfl rfl) rfl rfl rfl ?_
  refine J.y (op_assign rfl rfl) rfl rfl rfl ?_
  refine J.nil ?_
  refine J.then_n (J.k hK2 ?_)
  refine J.keepE [(2, _)] ⟨rfl, trivial⟩ ?_
  refine J.ret ?_
  exact J.done hw0 (fun _ _ h => h) (res1 rfl rfl) (retOk g1 rfl trivial [0, 1] rfl (by decide))

theorem keys_seq (Fr : Hp) (gb gm : Nat) (lv : List Sm.PR) (hb : Cells Fr ⟨gb, 0, none⟩ [.map (some gm)]) (hm : MapAt Fr gm (ssM lv)) :
    SeqCtY Tryd.prog 153 [Ptr gb] Fr (Y := MP) (fun y vs y' => ∃ p a b, y = a ++ p :: b ∧ vs = [Str p.1] ∧ y' = a ++ b) (fun y => y = []) (ssM lv) := by
  obtain ⟨es, ck, hg, hst, hkv⟩ := hm
  refine SeqCtY.walk Tryd.func153 rfl Tryd.ntmps153 rfl (fun {X} M IY S l x0 w0 hw0 h0 hY => ?_)
  change J _ [(0, _), (1, _)] _ _ _
  refine J.seq (fun K1 hK1 => ?_)
  refine J.region ?_
  refine J.y (op_load (v := .map (some gm)) rfl rfl Tryd.isAgg93 (m := Fr) (by simp) (hb)) rfl rfl rfl ?_
  refine J.e (op_rangeM rfl rfl Tryd.underlying93 (m := Fr) (by simp) hg hkv) rfl rfl rfl ?_
  rintro ⟨g5, mi⟩ hit
  try dsimp only at hit
  change J _ ((5, Ptr g5) :: _) _ [Fr, M x0, mi] _
  refine J.nil ?_
  refine J.then_n (J.k hK1 ?_)
  refine J.keepE [(0, _), (5, _)] ⟨rfl, rfl, trivial⟩ ?_
  refine J.block ?_
  refine J.loop (X := MP × X × Hp) (fun ζ => [(0, .func (.yield l) #[] #[]), (5, Ptr g5)]) (fun ζ => [Fr, M ζ.2.1, ζ.2.2]) (fun ζ => IY ζ.1 ζ.2.1 ∧ ItM ζ.2.2 g5 gm es ck ζ.1) (fun ζ => ζ.1.length) (ssM lv, x0, mi) (⟨h0, hit⟩) ⟨rfl, rfl, trivial⟩ (fun _ h => h) ?_
  rintro ⟨y, x, mi⟩ ⟨hI, hit⟩ I0 hI0
  dsimp only at hI hit ⊢
  refine J.seq (fun K2 hK2 => ?_)
  refine J.region ?_
  refine J.e (op_nextM (i := 2) rfl rfl (m := Fr) (by simp) hg hst rfl hit) rfl rfl rfl ?_
  rintro ⟨on, mj⟩ hnx
  try dsimp only at hnx
  change J _ ((6, nxtM on) :: _) _ [Fr, M x, mj] _
  refine J.y ((op_extract (vs := nxtA on) (v := .bool on.isSome) rfl (congrArg some (nxtM_eq on)) (nxtA_0 on))) rfl rfl rfl ?_
  refine J.nil ?_
  refine J.then_n (J.k hK2 ?_)
  refine J.keepE [(0, _), (5, _), (7, _)] ⟨rfl, rfl, rfl, trivial⟩ ?_
  refine J.seq (fun K3 hK3 => ?_)
  refine J.cond rfl (fun h7 => ?_) (fun h7 => ?_)
  ·
    obtain ⟨p, a, b, rfl, hy, hl⟩ : ∃ p a b, on = some p ∧ y = a ++ p :: b ∧ ItL mj g5 gm es ck (a ++ b) p := by
      rcases hnx with ⟨h1, _, _⟩ | h1
      · rw [h1] at h7; cases h7
      · exact h1
    refine J.skip ?_
    refine J.then_n (J.k hK3 ?_)
    refine J.keepE [(0, _), (5, _)] ⟨rfl, rfl, trivial⟩ ?_
    refine J.block ?_
    refine J.seq (fun K4 hK4 => ?_)
    refine J.region ?_
    refine J.y ((op_entryM (m := Fr) (mi := mj) (p := p) rfl rfl (by simp) hg hst (by simp) hl)) rfl rfl rfl ?_
    refine J.y ((op_extract (v := Str p.1) rfl rfl rfl)) rfl rfl rfl ?_
    refine J.y (op_assign rfl rfl) rfl rfl rfl ?_
    refine J.nil ?_
    refine J.then_n (J.k hK4 ?_)
    refine J.keepE [(0, _), (3, _), (5, _)] ⟨rfl, rfl, rfl, trivial⟩ ?_
    refine J.seq (fun K5 hK5 => ?_)
    refine J.regionI ?_
    refine J.yI (op_move rfl rfl) rfl rfl rfl ?_
    refine J.yI (op_move rfl rfl) rfl rfl rfl ?_
    refine J.yieldI (ex := [mj]) rfl rfl rfl rfl rfl rfl (hY y [Str p.1] (a ++ b) ⟨p, a, b, hy, rfl, rfl⟩ x hI) ?_
    rintro x' b hb1 hb2
    cases b
    ·
      have hyb := hb2 rfl
      change J _ _ _ [Fr, M x', mj] _
      refine J.yI (op_not rfl rfl) rfl rfl rfl ?_
      refine J.nilI ?_
      refine J.then_n (J.k hK5 ?_)
      refine J.keepE [(0, _), (5, _), (13, _)] ⟨rfl, rfl, rfl, trivial⟩ ?_
      refine J.condT rfl rfl ?_
      refine J.ret ?_
      refine J.blk_r ?_
      refine J.then_r ?_
      refine J.blk_r ?_
      exact J.done hw0 (fun _ _ h => h) (res0 rfl) (fun w hs => ⟨x', ⟨_, rfl⟩, .inr hyb, hs.pick [0, 1] (by decide)⟩)
    ·
      have hyb := hb1 rfl
      change J _ _ _ [Fr, M x', mj] _
      refine J.yI (op_not rfl rfl) rfl rfl rfl ?_
      refine J.nilI ?_
      refine J.then_n (J.k hK5 ?_)
      refine J.keepE [(0, _), (5, _), (13, _)] ⟨rfl, rfl, rfl, trivial⟩ ?_
      refine J.condF rfl rfl ?_
      refine J.skip ?_
      refine J.blk_n ?_
      refine J.then_n ?_
      exact J.kk (a ++ b, x', mj) (fun η (hη : _ ∧ η.1.length < y.length) => hI0 η hη.1 hη.2) ⟨⟨hyb, hl.it⟩, by rw [hy]; simp⟩ ⟨rfl, rfl, trivial⟩ (fun _ h => h)
  ·
    have hy0 : y = [] := by
      rcases hnx with ⟨_, h1, _⟩ | ⟨p, a, b, h1, _⟩
      · exact h1
      · rw [h1] at h7; cases h7
    refine J.exit ?_
    refine J.then_x ?_
    refine J.then_x ?_
    refine J.blk_eq ?_
    exact J.fin hw0 (fun _ _ h => h) (res0 rfl) (fun w hs => ⟨x, ⟨_, rfl⟩, .inl ⟨[], rfl, hy0 ▸ hI⟩, hs.pick [0, 1] (by decide)⟩)

theorem appq_ct (F : Hp) (gb gm : Nat) (lv : List Sm.PR) (hb : Cells F ⟨gb, 0, none⟩ [.map (some gm)]) (hm : MapAt F gm (ssM lv)) (hln : lv.length ≤ 1000000) : Ct Tryd.prog 189 [.slice none 0 0, .func (.func 153) #[] #[Ptr gb]] [F] (fun x : List (List UInt8) × Option Addr × Nat × Hp => .slice x.2.1 x.1.length x.2.2.1) (fun x => Row x.2.2.2 9 1 x.2.1 x.1.length x.2.2.1 (strsV x.1) ∧ x.1.Perm (lv.map (·.1))) (fun x => [F, x.2.2.2]) := by
  refine Ct.walk Tryd.func189 rfl Tryd.ntmps189 rfl (fun w0 hw0 => ?_)
  change J _ [(0, _), (1, _)] _ _ _
  refine J.seq (fun K1 hK1 => ?_)
  refine J.region ?_
  refine J.e (op_box (l := [.slice none 0 0]) rfl rfl rfl) rfl rfl rfl ?_
  intro g2 _
  change J _ _ _ [F, blk g2 [.slice none 0 0] 55] _
  refine J.y (op_assign rfl rfl) rfl rfl rfl ?_
  refine J.nil ?_
  refine J.then_n (J.k hK1 ?_)
  refine J.keepE [(1, _), (2, _)] ⟨rfl, rfl, trivial⟩ ?_
  refine J.seq (fun K2 hK2 => ?_)
  refine J.seq (fun K3 hK3 => ?_)
  refine J.region ?_
  refine J.y (op_move rfl rfl) rfl rfl rfl ?_
  refine J.nil ?_
  refine J.then_n (J.k hK3 ?_)
  refine J.keepE [(2, _), (6, _)] ⟨rfl, rfl, trivial⟩ ?_
  refine J.block ?_
  refine J.addEmpty [1, 2, 0] [blk g2 [.slice none 0 0] 55, (fun _ => none), F] rfl (by decide) ?_
  refine J.rangeY (fun x : List (List UInt8) × Option Addr × Nat × Hp => [blk g2 [.slice x.2.1 x.1.length x.2.2.1] 55, x.2.2.2]) [F] (fun (y : MP) x => Row x.2.2.2 9 1 x.2.1 x.1.length x.2.2.1 (strsV x.1) ∧ (x.1 ++ y.map (·.1)).Perm (lv.map (·.1))) (fun _ _ => False) ([], none, 0, fun _ => none) rfl ent153 (fun Fr hF => keys_seq Fr gb gm lv (hb.mono (hF F (by simp))) (hm.mono (hF F (by simp)))) (by rintro y vs y' ⟨p, a, b, rfl, rfl, rfl⟩; rfl) rfl (⟨RowQ.nil, by show (([] : List (List UInt8)) ++ (ssM lv).map (·.1)).Perm _; rw [List.nil_append, List.map_map]; exact List.Perm.refl _⟩) ?_ ?_ ?_
  ·
    intro y vs y' x l wa wb hi hI K4 Post4 hK4 hN4 hR4 hE4
    obtain ⟨p, a, b, rfl, rfl, rfl⟩ := hi
    obtain ⟨ks, Ax, cx, mx⟩ := x
    obtain ⟨hr, hp⟩ := hI
    dsimp only at hr hp
    have hkl := hp.length_eq
    rw [List.length_append, List.length_map, List.length_map, List.length_append, List.length_cons] at hkl
    change J _ ((7, Str p.1) :: _) _ [blk g2 [.slice Ax ks.length cx] 55, mx, F] _
    refine J.regionR ?_
    refine J.y (op_assign rfl rfl) rfl rfl rfl ?_
    refine J.nilR ?_
    refine J.then_n (hK4 _ _ ?_)
    refine J.keepE [(2, _), (5, _)] ⟨rfl, rfl, trivial⟩ ?_
    refine J.blockR ?_
    refine J.regionR ?_
    refine J.y (op_loadB 0 rfl rfl rfl Tryd.isAgg55 rfl) rfl rfl rfl ?_
    refine J.y (op_move rfl rfl) rfl rfl rfl ?_
    refine J.e (op_buildSlice (l := [.tmp 9]) (xs := [[Str p.1]]) rfl rfl rfl rfl Tryd.underlying55 el9 rfl (by decide) (by decide) (by simp)) rfl rfl rfl ?_
    intro g10 _
    change J _ _ _ [blk g2 [.slice Ax ks.length cx] 55, mx, F, blk g10 [Str p.1] 9] _
    refine J.e (op_append (i := 1) (m2 := blk g10 [Str p.1] 9) (ys := strsV [p.1]) rfl rfl rfl Tryd.underlying55 Tryd.underlying55 el9 rfl hr (by simp) (slS [p.1] rfl) (one_strs _) (by omega) (by omega)) rfl rfl rfl ?_
    rintro ⟨A11, c11, m11⟩ h11
    try dsimp only at h11
    change J _ ((11, .slice A11 (ks.length + 1) c11) :: _) _ [blk g2 [.slice Ax ks.length cx] 55, m11, F, blk g10 [Str p.1] 9] _
    replace h11 : Row m11 9 1 A11 (ks.length + 1) c11 (strsV (ks ++ [p.1])) := by rw [strsV_snoc]; exact h11
    rw [show ks.length + 1 = (ks ++ [p.1]).length by simp] at h11 ⊢
    refine J.s (op_store (i := 0) (vs := [.slice A11 (ks ++ [p.1]).length c11]) rfl rfl rfl rfl rfl Tryd.sizeOf55 rfl (by simp)) rfl rfl (fun _ _ => ?_)
    change J _ _ _ [blk g2 [.slice A11 (ks ++ [p.1]).length c11] 55, m11, F, blk g10 [Str p.1] 9] _
    refine J.perm [0, 1, 2] [blk g2 [.slice A11 (ks ++ [p.1]).length c11] 55, m11, F] rfl (by decide) ?_
    refine J.nilR ?_
    refine J.blk_n ?_
    exact hN4 _ (ks ++ [p.1], A11, c11, m11) ⟨h11, by dsimp only; rw [List.append_assoc, List.map_append]; refine List.Perm.trans ?_ hp; rw [List.map_append, List.map_cons]; exact List.Perm.append_left _ (by simpa using List.perm_middle.symm)⟩
  ·
    intro w4 x y hx4 hf hI
    obtain ⟨ks, Ax, cx, mx⟩ := x
    obtain ⟨hr, hp⟩ := hI
    obtain rfl : y = [] := hf
    dsimp only at hr hp
    rw [List.map_nil, List.append_nil] at hp
    change J _ _ _ [blk g2 [.slice Ax ks.length cx] 55, mx, F] _
    refine J.blk_n ?_
    refine J.then_n (J.k hK2 ?_)
    refine J.keepE [(2, _)] ⟨rfl, trivial⟩ ?_
    refine J.seq (fun K5 hK5 => ?_)
    refine J.region ?_
    refine J.y (op_loadB 0 rfl rfl rfl Tryd.isAgg55 rfl) rfl rfl rfl ?_
    refine J.y (op_assign rfl rfl) rfl rfl rfl ?_
    refine J.nil ?_
    refine J.then_n (J.k hK5 ?_)
    refine J.keepE [(4, _)] ⟨rfl, trivial⟩ ?_
    refine J.ret ?_
    exact J.doneM hw0 hx4 (fun _ _ h => h) (res1 rfl rfl) (retOk (ks, Ax, cx, mx) rfl ⟨hr, hp⟩ [2, 1] rfl (by decide))
  ·
    intro w4 x c hx4 hS
    exact hS.elim

theorem coll_ct (F : Hp) (gb gm : Nat) (lv : List Sm.PR) (hb : Cells F ⟨gb, 0, none⟩ [.map (some gm)]) (hm : MapAt F gm (ssM lv)) (hln : lv.length ≤ 1000000) : Ct Tryd.prog 151 [.func (.func 153) #[] #[Ptr gb]] [F] (fun x : List (List UInt8) × Option Addr × Nat × Hp => .slice x.2.1 x.1.length x.2.2.1) (fun x => Row x.2.2.2 9 1 x.2.1 x.1.length x.2.2.1 (strsV x.1) ∧ x.1.Perm (lv.map (·.1))) (fun x => [F, x.2.2.2]) := by
  refine Ct.walk Tryd.func151 rfl Tryd.ntmps151 rfl (fun w0 hw0 => ?_)
  change J _ [(0, _)] _ _ _
  refine J.seq (fun K1 hK1 => ?_)
  refine J.region ?_
  refine J.y (op_assign rfl rfl) rfl rfl rfl ?_
  refine J.nil ?_
  refine J.then_n (J.k hK1 ?_)
  refine J.keepE [(0, _)] ⟨rfl, trivial⟩ ?_
  refine J.seq (fun K2 hK2 => ?_)
  refine J.region ?_
  refine J.y (op_move rfl rfl) rfl rfl rfl ?_
  refine J.e (op_call rfl rfl ent189 (Ct.use (new := fun x : List (List UInt8) × Option Addr × Nat × Hp => [x.2.2.2]) (fun F' hF => appq_ct F' gb gm lv (hb.mono (hF F (by simp))) (hm.mono (hF F (by simp))) hln))) rfl rfl rfl ?_
  rintro ⟨ks, A4, c4, m4⟩ h4
  try dsimp only at h4
  change J _ ((4, .slice A4 ks.length c4) :: _) _ [F, m4] _
  refine J.y (op_assign rfl rfl) rfl rfl rfl ?_
  refine J.nil ?_
  refine J.then_n (J.k hK2 ?_)
  refine J.keepE [(2, _)] ⟨rfl, trivial⟩ ?_
  refine J.ret ?_
  exact J.done hw0 (fun _ _ h => h) (res1 rfl rfl) (retOk (ks, A4, c4, m4) rfl h4 [0, 1] rfl (by decide))

theorem sorted_ct (F : Hp) (gb gm : Nat) (lv : List Sm.PR) (hb : Cells F ⟨gb, 0, none⟩ [.map (some gm)]) (hm : MapAt F gm (ssM lv)) (hln : lv.length ≤ 1000000) : Ct Tryd.prog 109 [.func (.func 153) #[] #[Ptr gb]] [F] (fun x : Option Addr × Nat × Hp => .slice x.1 (Sm.keysS lv).length x.2.1) (fun x => Row x.2.2 9 1 x.1 (Sm.keysS lv).length x.2.1 (strsV (Sm.keysS lv))) (fun x => [F, x.2.2]) := by
  refine Ct.walk Tryd.func109 rfl Tryd.ntmps109 rfl (fun w0 hw0 => ?_)
  change J _ [(0, _)] _ _ _
  refine J.seq (fun K1 hK1 => ?_)
  refine J.region ?_
  refine J.y (op_assign rfl rfl) rfl rfl rfl ?_
  refine J.nil ?_
  refine J.then_n (J.k hK1 ?_)
  refine J.keepE [(0, _)] ⟨rfl, trivial⟩ ?_
  refine J.seq (fun K2 hK2 => ?_)
  refine J.region ?_
  refine J.y (op_move rfl rfl) rfl rfl rfl ?_
  refine J.e (op_call rfl rfl ent151 (Ct.use (new := fun x : List (List UInt8) × Option Addr × Nat × Hp => [x.2.2.2]) (fun F' hF => coll_ct F' gb gm lv (hb.mono (hF F (by simp))) (hm.mono (hF F (by simp))) hln))) rfl rfl rfl ?_
  rintro ⟨ks, A5, c5, m5⟩ h5
  try dsimp only at h5
  change J _ ((5, .slice A5 ks.length c5) :: _) _ [F, m5] _
  refine J.y (op_assign rfl rfl) rfl rfl rfl ?_
  refine J.nil ?_
  refine J.then_n (J.k hK2 ?_)
  refine J.keepE [(3, _)] ⟨rfl, trivial⟩ ?_
  refine J.seq (fun K3 hK3 => ?_)
  refine J.region ?_
  refine J.y (op_move rfl rfl) rfl rfl rfl ?_
  refine J.e (op_call rfl rfl ent152 (Ct.use1 1 (m' := fun x : Hp => x) (new := fun _ => []) rfl (fun F' hF => sort_ct F' m5 A5 ks.length c5 ks h5.1 (by have := h5.2.length_eq; rw [List.length_map] at this; omega)))) rfl rfl rfl ?_
  rintro m7 h7
  change J _ ((7, .tuple #[]) :: _) _ [F, m7] _
  refine J.nil ?_
  refine J.then_n (J.k hK3 ?_)
  refine J.keepE [(3, _)] ⟨rfl, trivial⟩ ?_
  refine J.seq (fun K4 hK4 => ?_)
  refine J.region ?_
  refine J.y (op_move rfl rfl) rfl rfl rfl ?_
  refine J.y (op_assign rfl rfl) rfl rfl rfl ?_
  refine J.nil ?_
  refine J.then_n (J.k hK4 ?_)
  refine J.keepE [(2, _)] ⟨rfl, trivial⟩ ?_
  refine J.ret ?_
  have hks : Sm.srt ks = Sm.keysS lv := Sm.srt_eq h5.2
  have hkn : ks.length = (Sm.keysS lv).length := by rw [← hks, Sm.srt_len]
  rw [hks, hkn] at h7
  exact J.done hw0 (fun _ _ h => h) (res1 rfl rfl) (retOk (A5, c5, m7) (by rw [hkn]) h7 [0, 1] rfl (by decide))

theorem tkeys_ct (F : Hp) (g : Nat) (l : List Sm.PR) (hT : TreeA F g l) (hln : l.length ≤ 1000000) : Ct Tryd.prog 63 [Ptr g] [F] (fun x : Option Addr × Nat × Hp => .slice x.1 (Sm.keysS l).length x.2.1) (fun x => Row x.2.2 9 1 x.1 (Sm.keysS l).length x.2.1 (strsV (Sm.keysS l))) (fun x => [F, x.2.2]) := by
  have hT0 := hT
  obtain ⟨gm, hc, hm⟩ := hT0
  refine Ct.walk Tryd.func63 rfl Tryd.ntmps63 rfl (fun w0 hw0 => ?_)
  change J _ [(0, _)] _ _ _
  refine J.seq (fun K1 hK1 => ?_)
  refine J.region ?_
  refine J.y (op_assign rfl rfl) rfl rfl rfl ?_
  refine J.nil ?_
  refine J.then_n (J.k hK1 ?_)
  refine J.keepE [(0, _)] ⟨rfl, trivial⟩ ?_
  refine J.seq (fun K2 hK2 => ?_)
  refine J.seq (fun K3 hK3 => ?_)
  refine J.region ?_
  refine J.y (op_move rfl rfl) rfl rfl rfl ?_
  refine J.y ((op_peq Tryd.underlying25 rfl rfl rfl).as (v' := .bool false) rfl) rfl rfl rfl ?_
  refine J.nil ?_
  refine J.then_n (J.k hK3 ?_)
  refine J.keepE [(0, _), (4, _)] ⟨rfl, rfl, trivial⟩ ?_
  refine J.condF rfl rfl ?_
  refine J.skip ?_
  refine J.then_n (J.k hK2 ?_)
  refine J.keepE [(0, _)] ⟨rfl, trivial⟩ ?_
  refine J.seq (fun K4 hK4 => ?_)
  refine J.region ?_
  refine J.y (op_move rfl rfl) rfl rfl rfl ?_
  refine J.y (op_nilCheck rfl rfl) rfl rfl rfl ?_
  refine J.y (op_fieldAddr (j := 0) rfl rfl Tryd.underlying95 rfl Tryd.sizeOf93 rfl) rfl rfl rfl ?_
  refine J.y (op_load (v := .map (some gm)) rfl rfl Tryd.isAgg93 (m := F) (by simp) (hc)) rfl rfl rfl ?_
  refine J.e (op_call rfl rfl ent110 (Ct.use (new := fun g : Nat => [blk g [.map (some gm)] 93]) (fun F' _ => mkeys_ct F' gm))) rfl rfl rfl ?_
  rintro g9 _
  change J _ ((9, .func (.func 153) #[] #[Ptr g9]) :: _) _ [F, blk g9 [.map (some gm)] 93] _
  refine J.e (op_call rfl rfl ent109 (Ct.use (new := fun x : Option Addr × Nat × Hp => [x.2.2]) (fun F' hF => sorted_ct F' g9 gm l (Cells.blk0.mono (hF (blk g9 [.map (some gm)] 93) (by simp))) (hm.mono (hF F (by simp))) hln))) rfl rfl rfl ?_
  rintro ⟨A10, c10, m10⟩ h10
  try dsimp only at h10
  change J _ ((10, .slice A10 (Sm.keysS l).length c10) :: _) _ [F, blk g9 [.map (some gm)] 93, m10] _
  refine J.y (op_assign rfl rfl) rfl rfl rfl ?_
  refine J.nil ?_
  refine J.then_n (J.k hK4 ?_)
  refine J.keepE [(2, _)] ⟨rfl, trivial⟩ ?_
  refine J.ret ?_
  exact J.done hw0 (fun _ _ h => h) (res1 rfl rfl) (retOk (A10, c10, m10) rfl h10 [0, 2] rfl (by decide))

end Go.Proofs.YtnkfapecbmmpeaaDoor
