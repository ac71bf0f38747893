/- A part of the proof. -/
import Derived.Test.YtfldiegfenndjaaGreatDoorTopCcG14
import Derived.Test.YtfldiegfenndjaaGreatDoorTopCcG13
import Derived.Shelf.Sort.Plain
import Derived.Shelf.Slices.In.SortNone
import Derived.Test.YtfldiegfenndjaaGreatDoorTopCcG8
import Derived.Test.YtfldiegfenndjaaGreatDoorTopCcG16
import Derived.Test.YtfldiegfenndjaaGreatDoorTopCcG4
import Derived.Test.YtfldiegfenndjaaGreatDoorTopCcG5
set_option linter.unusedSimpArgs false
set_option linter.unusedVariables false
namespace Go.Proofs.YtfldiegfenndjaaGreatDoor
open Go Go.Fw Go.Proofs.Tryz
set_option maxRecDepth 100000
set_option maxHeartbeats 1000000
open Go.Shelf Go.RowKit
def Tryz.lays190_ren : Go.Shelf.Ren := ⟨fun | 190 => 182 | 125 => 218 | 258 => 217 | 128 => 240 | 129 => 241 | 302 => 231 | 303 => 232 | 304 => 233 | 305 => 234 | 306 => 235 | 307 => 236 | 308 => 237 | 309 => 238 | 310 => 239 | 333 => 246 | 329 => 247 | 330 => 248 | 334 => 249 | 335 => 250 | 336 => 251 | 344 => 257 | n => n, fun | 31 => 37 | 9 => 9 | 3 => 3 | 46 => 94 | 0 => 0 | 51 => 246 | 53 => 36 | 4 => 4 | 183 => 341 | 182 => 340 | 131 => 258 | 5 => 5 | 218 => 350 | 222 => 353 | 228 => 355 | 229 => 356 | n => n, fun | n => n⟩
theorem Tryz.lays190 : Go.Proofs.Lays.n190 prog Tryz.lays190_ren := {
 mixed := by kernel_rfl
 f125 := func218.trans (congrArg some (by kernel_rfl))
 f128 := func240.trans (congrArg some (by kernel_rfl))
 f129 := func241.trans (congrArg some (by kernel_rfl))
 f190 := func182.trans (congrArg some (by kernel_rfl))
 f258 := func217.trans (congrArg some (by kernel_rfl))
 f302 := func231.trans (congrArg some (by kernel_rfl))
 f303 := func232.trans (congrArg some (by kernel_rfl))
 f304 := func233.trans (congrArg some (by kernel_rfl))
 f305 := func234.trans (congrArg some (by kernel_rfl))
 f306 := func235.trans (congrArg some (by kernel_rfl))
 f307 := func236.trans (congrArg some (by kernel_rfl))
 f308 := func237.trans (congrArg some (by kernel_rfl))
 f309 := func238.trans (congrArg some (by kernel_rfl))
 f310 := func239.trans (congrArg some (by kernel_rfl))
 f329 := func247.trans (congrArg some (by kernel_rfl))
 f330 := func248.trans (congrArg some (by kernel_rfl))
 f333 := func246.trans (congrArg some (by kernel_rfl))
 f334 := func249.trans (congrArg some (by kernel_rfl))
 f335 := func250.trans (congrArg some (by kernel_rfl))
 f336 := func251.trans (congrArg some (by kernel_rfl))
 f344 := func257.trans (congrArg some (by kernel_rfl))
 t0 := u0_
 a0 := isAgg0
 z0 := sizeOf0
 v0 := e0_
 t3 := u3_
 a3 := b3_
 z3 := z3_
 v3 := e3_
 t4 := u4_
 a4 := b4_
 z4 := z4_
 v4 := e4_
 t5 := u5_
 a5 := b5_
 z5 := z5_
 v5 := e5_
 t9 := u9_
 a9 := b9_
 z9 := z9_
 v9 := e9_
 t31 := qAn
 a31 := qDq
 z31 := qEZ
 v31 := zeroValue37
 t46 := qTO
 a46 := isAgg94
 z46 := sizeOf94
 v46 := qUJ
 t51 := qHh
 a51 := qCo
 z51 := qBz
 v51 := zeroValue246
 t53 := qDu
 a53 := qBq
 z53 := qBQ
 v53 := zeroValue36
 t131 := underlying258
 a131 := isAgg258
 z131 := sizeOf258
 v131 := zeroValue258
 t182 := underlying340
 a182 := isAgg340
 z182 := sizeOf340
 v182 := zeroValue340
 t183 := underlying341
 a183 := isAgg341
 z183 := sizeOf341
 v183 := zeroValue341
 t218 := underlying350
 a218 := isAgg350
 z218 := sizeOf350
 v218 := zeroValue350
 t222 := underlying353
 a222 := isAgg353
 z222 := sizeOf353
 v222 := zeroValue353
 t228 := underlying355
 a228 := isAgg355
 z228 := sizeOf355
 v228 := zeroValue355
 t229 := underlying356
 a229 := isAgg356
 z229 := sizeOf356
 v229 := zeroValue356 }
theorem qRj (F m : Hp) (A : Option Addr) (n c : Nat) (l : List (List UInt8)) (hr : Row m 9 1 A n c (qAL l)) (hn : n ≤ 1073741824) :
    Ct prog 182 [.slice A n c] [m, F] (fun _ : Hp => .tuple #[]) (fun m' => Row m' 9 1 A n c (qAL (Sm.srt l))) (fun m' => [m', F]) :=
  Ct.ofSort Sm.srt_len (fun blk off cap ss w h1 h2 h3 => Any.slices_Sort_string Tryz.lays190 blk off cap ss w h1 h2 h3) (fun p cap w => Any.slices_Sort_string_none Tryz.lays190 p cap w) hr hn
end Go.Proofs.YtfldiegfenndjaaGreatDoor
namespace Go.Proofs.YtfldiegfenndjaaGreatDoor
open Go Go.Fw Go.Proofs.Tryz
set_option maxRecDepth 100000
set_option maxHeartbeats 1000000
theorem ent144 : qAC prog 144 := qAC.of func144 rfl (by kernel_rfl)
theorem ent145 : qAC prog 145 := qAC.of func145 rfl (by kernel_rfl)
theorem ent181 : qAC prog 181 := qAC.of func181 rfl (by kernel_rfl)
theorem ent182 : qAC prog 182 := qAC.of func182 rfl (by kernel_rfl)
theorem ent183 : qAC prog 183 := qAC.of func183 rfl (by kernel_rfl)
theorem ent216 : qAC prog 216 := qAC.of func216 rfl (by kernel_rfl)
theorem qPq (F : Hp) (gm : Nat) : Ct prog 145 [.map (some gm)] [F] (fun g : Nat => .func (.func 183) #[] #[Ptr g]) (fun _ => True) (fun g => [F, blk g [.map (some gm)] 164]) := by
 refine Ct.walk func145 rfl ntmps145 rfl (fun w0 hw0 => ?_)
 refine J.g fun K1 hK1 => J.u (qAl rfl rfl rfl) rfl fun g1 _ => J.b rfl <| J.c hK1 <| J.A 1 ?_
 refine J.g fun K2 hK2 => J.f (qBh rfl rfl) rfl <| J.b rfl <| J.c hK2 <| J.A 2 ?_
 exact J.D <| J.L hw0 rfl g1 rfl trivial [0, 1] rfl (by decide)
theorem qP1 (Fr : Hp) (gb gm : Nat) (lv : List Sm.PR) (hb : qAV Fr ⟨gb, 0, none⟩ [.map (some gm)]) (hm : qFt Fr gm (ssM lv)) :
    qIY prog 183 [Ptr gb] Fr (Y := MP) (fun y vs y' => ∃ p a b, y = a ++ p :: b ∧ vs = [Str p.1] ∧ y' = a ++ b) (fun y => y = []) (ssM lv) := by
  obtain ⟨es, ck, hg, hst, hkv⟩ := hm
  refine qIY.walk func183 rfl ntmps183 rfl (fun {X} M IY S l x0 w0 hw0 h0 hY => ?_)
  refine J.g fun K1 hK1 => J.f (qAK rfl rfl isAgg164 (m := Fr) (by simp) (hb)) rfl <| J.u (qNF rfl rfl underlying164 (by simp) hg hkv) rfl ?_
  rintro ⟨g5, mi⟩ hit
  try dsimp only at hit
  refine J.c hK1 <| J.M 0 5 ?_
  refine J.T <| J.b2 (X := MP × X × Hp) (fun ζ => [(0, .func (.yield l) #[] #[]), (5, Ptr g5)]) (fun ζ => [Fr, M ζ.2.1, ζ.2.2]) (fun ζ => IY ζ.1 ζ.2.1 ∧ ItM ζ.2.2 g5 gm es ck ζ.1) (fun ζ => ζ.1.length) (ssM lv, x0, mi) (⟨h0, hit⟩) ⟨rfl, rfl, trivial⟩ (fun _ h => h) ?_
  rintro ⟨y, x, mi⟩ ⟨hI, hit⟩ I0 hI0
  dsimp only at hI hit ⊢
  refine J.g fun K2 hK2 => J.u (qPT (i := 2) rfl rfl (m := Fr) (by simp) hg hst rfl hit) rfl ?_
  rintro ⟨on, mj⟩ hnx
  try dsimp only at hnx
  refine J.f ((qAm rfl (congrArg some (qSW on)) (qTw on))) rfl <| J.c hK2 <| J.V 0 5 7 ?_
  refine J.k fun K3 hK3 => J.d0 rfl (fun h7 => ?_) (fun h7 => ?_)
  ·
    obtain ⟨p, a, b, rfl, hy, hl⟩ : ∃ p a b, on = some p ∧ y = a ++ p :: b ∧ ItL mj g5 gm es ck (a ++ b) p := by
      rcases hnx with ⟨h1, _, _⟩ | h1
      · rw [h1] at h7; cases h7
      · exact h1
    refine J.a1 hK3 <| J.M 0 5 ?_
    refine J.T <| J.g fun K4 hK4 => J.f ((qNH (mi := mj) (p := p) rfl rfl (by simp) hg hst (by simp) hl)) rfl <| J.f ((qAm rfl rfl rfl)) rfl <| J.b rfl <| J.c hK4 <| J.V 0 3 5 ?_
    refine J.k fun K5 hK5 => J.g2 ?_
    refine J.d3 (qAj rfl rfl) rfl rfl rfl ?_
    refine J.d3 (qAj rfl rfl) rfl rfl rfl ?_
    refine J.g3 (ex := [mj]) rfl rfl rfl rfl rfl rfl (hY y [Str p.1] (a ++ b) ⟨p, a, b, hy, rfl, rfl⟩ x hI) ?_
    rintro x' b hb1 hb2
    cases b
    ·
      have hyb := hb2 rfl
      refine J.d3 (qA2 rfl rfl) rfl rfl rfl ?_
      refine J.f3 ?_
      refine J.q (J.H hK5 ?_)
      refine J.V 0 5 13 ?_
      refine J.d1 ?_
      exact J.D <| J.b3 <| J.a5 <| J.b3 <| J.c2 hw0 (fun _ _ h => h) (qLx rfl) (fun w hs => ⟨x', ⟨_, rfl⟩, .inr hyb, hs.pick [0, 1] (by decide)⟩)
    have hyb := hb1 rfl
    refine J.d3 (qA2 rfl rfl) rfl rfl rfl ?_
    refine J.f3 ?_
    refine J.q (J.H hK5 ?_)
    refine J.V 0 5 13 ?_
    refine J.b6 ?_
    exact J.b7 <| J.a4 <| J.q <| J.a6 (a ++ b, x', mj) (fun η (hη : _ ∧ η.1.length < y.length) => hI0 η hη.1 hη.2) ⟨⟨hyb, hl.it⟩, by rw [hy]; simp⟩ ⟨rfl, rfl, trivial⟩ (fun _ h => h)
  have hy0 : y = [] := by
    rcases hnx with ⟨_, h1, _⟩ | ⟨p, a, b, h1, _⟩
    · exact h1
    · rw [h1] at h7; cases h7
  refine J.b0 <| J.Z <| J.Z <| J.b1 ?_
  exact J.e4 hw0 (fun _ _ h => h) (qLx rfl) (fun w hs => ⟨x, ⟨_, rfl⟩, .inl ⟨[], rfl, hy0 ▸ hI⟩, hs.pick [0, 1] (by decide)⟩)
theorem qTC (F : Hp) (gb gm : Nat) (lv : List Sm.PR) (hb : qAV F ⟨gb, 0, none⟩ [.map (some gm)]) (hm : qFt F gm (ssM lv)) (hln : lv.length ≤ 1000000) : Ct prog 216 [.slice none 0 0, .func (.func 183) #[] #[Ptr gb]] [F] (fun x : List (List UInt8) × Option Addr × Nat × Hp => .slice x.2.1 x.1.length x.2.2.1) (fun x => Row x.2.2.2 9 1 x.2.1 x.1.length x.2.2.1 (qAL x.1) ∧ x.1.Perm (lv.map (·.1))) (fun x => [F, x.2.2.2]) := by
 refine Ct.walk func216 rfl ntmps216 rfl (fun w0 hw0 => ?_)
 refine J.g fun K1 hK1 => J.u (qAl rfl rfl rfl) rfl fun g2 _ => J.b rfl <| J.c hK1 <| J.M 1 2 ?_
 refine J.k fun K2 hK2 => J.g fun K3 hK3 => J.b rfl <| J.c hK3 <| J.M 2 6 ?_
 refine J.T <| J.d6 [1, 2, 0] [blk g2 [.slice none 0 0] 37, (fun _ => none), F] rfl (by decide) <| J.i4 (fun x : List (List UInt8) × Option Addr × Nat × Hp => [blk g2 [.slice x.2.1 x.1.length x.2.2.1] 37, x.2.2.2]) [F] (fun (y : MP) x => Row x.2.2.2 9 1 x.2.1 x.1.length x.2.2.1 (qAL x.1) ∧ (x.1 ++ y.map (·.1)).Perm (lv.map (·.1))) (fun _ _ => False) ([], none, 0, fun _ => none) rfl ent183 (fun Fr hF => qP1 Fr gb gm lv (hb.mono (hF F (by simp))) (hm.mono (hF F (by simp)))) (by rintro y vs y' ⟨p, a, b, rfl, rfl, rfl⟩; rfl) rfl (⟨qB5.nil, by show (([] : List (List UInt8)) ++ (ssM lv).map (·.1)).Perm _; rw [List.nil_append, List.map_map]; exact List.Perm.refl _⟩) ?_ ?_ ?_
 ·
  intro y vs y' x l wa wb hi hI K4 Post4 hK4 hN4 hR4 hE4
  obtain ⟨p, a, b, rfl, rfl, rfl⟩ := hi
  obtain ⟨ks, Ax, cx, mx⟩ := x
  obtain ⟨hr, hp⟩ := hI
  dsimp only at hr hp
  have hkl := hp.length_eq
  rw [List.length_append, List.length_map, List.length_map, List.length_append, List.length_cons] at hkl
  change J _ ((7, Str p.1) :: _) _ [blk g2 [.slice Ax ks.length cx] 37, mx, F] _
  refine J.e6 ?_
  refine J.b rfl <| J.e7 ?_
  refine J.q (hK4 _ _ ?_)
  refine J.M 2 5 ?_
  refine J.g1 ?_
  refine J.e6 ?_
  refine J.c4 0 qDq rfl rfl rfl rfl rfl <| J.b rfl <| J.u (qAH (l := [.tmp 9]) (xs := [[Str p.1]]) rfl rfl rfl rfl qAn el9 rfl (by decide) (by decide) (by simp)) rfl fun g10 _ => ?_
  change J _ _ _ [_, _, _, blk g10 [Str p.1] 9] _
  refine J.u (qAb (i := 1) (m2 := blk g10 [Str p.1] 9) (ys := qAL [p.1]) rfl rfl rfl qAn qAn el9 rfl hr (by simp) (slS [p.1] rfl) (qCN _) (by omega) (by omega)) rfl ?_
  rintro ⟨A11, c11, m11⟩ h11
  try dsimp only at h11
  replace h11 : Row m11 9 1 A11 (ks.length + 1) c11 (qAL (ks ++ [p.1])) := by rw [qDM]; exact h11
  rw [show ks.length + 1 = (ks ++ [p.1]).length by simp] at h11 ⊢
  refine J.c1 (qAc (i := 0) rfl rfl rfl rfl rfl qEZ rfl (by simp)) rfl rfl fun _ _ => J.c5 [0, 1, 2] [blk g2 [.slice A11 (ks ++ [p.1]).length c11] 37, m11, F] rfl (by decide) <| J.e7 ?_
  refine J.a4 ?_
  exact hN4 _ (ks ++ [p.1], A11, c11, m11) ⟨h11, by dsimp only; rw [List.append_assoc, List.map_append]; refine List.Perm.trans ?_ hp; rw [List.map_append, List.map_cons]; exact List.Perm.append_left _ (by simpa using List.perm_middle.symm)⟩
 ·
  intro w4 x y hx4 hf hI
  obtain ⟨ks, Ax, cx, mx⟩ := x
  obtain ⟨hr, hp⟩ := hI
  obtain rfl : y = [] := hf
  dsimp only at hr hp
  rw [List.map_nil, List.append_nil] at hp
  refine J.a4 <| J.q (J.H hK2 ?_)
  refine J.A 2 ?_
  refine J.g fun K5 hK5 => J.c4 0 qDq rfl rfl rfl rfl rfl <| J.b rfl <| J.c hK5 <| J.A 4 ?_
  exact J.D <| J.g4 hw0 hx4 (fun _ _ h => h) (qOW rfl rfl) (qBD (ks, Ax, cx, mx) rfl ⟨hr, hp⟩ [2, 1] rfl (by decide))
 intro w4 x c hx4 hS
 exact hS.elim
theorem qS0 (F : Hp) (gb gm : Nat) (lv : List Sm.PR) (hb : qAV F ⟨gb, 0, none⟩ [.map (some gm)]) (hm : qFt F gm (ssM lv)) (hln : lv.length ≤ 1000000) : Ct prog 181 [.func (.func 183) #[] #[Ptr gb]] [F] (fun x : List (List UInt8) × Option Addr × Nat × Hp => .slice x.2.1 x.1.length x.2.2.1) (fun x => Row x.2.2.2 9 1 x.2.1 x.1.length x.2.2.1 (qAL x.1) ∧ x.1.Perm (lv.map (·.1))) (fun x => [F, x.2.2.2]) := by
 refine Ct.walk func181 rfl ntmps181 rfl (fun w0 hw0 => ?_)
 refine J.g fun K1 hK1 => J.b rfl <| J.c hK1 <| J.A 0 ?_
 refine J.g fun K2 hK2 => J.b rfl <| J.u (qAB rfl rfl ent216 (Ct.use (fun F' hF => qTC F' gb gm lv (hb.mono (hF F (by simp))) (hm.mono (hF F (by simp))) hln))) rfl ?_
 rintro ⟨ks, A4, c4, m4⟩ h4
 try dsimp only at h4
 refine J.b rfl <| J.c hK2 <| J.A 2 ?_
 exact J.D <| J.L hw0 rfl (ks, A4, c4, m4) rfl h4 [0, 1] rfl (by decide)
theorem qMY (F : Hp) (gb gm : Nat) (lv : List Sm.PR) (hb : qAV F ⟨gb, 0, none⟩ [.map (some gm)]) (hm : qFt F gm (ssM lv)) (hln : lv.length ≤ 1000000) : Ct prog 144 [.func (.func 183) #[] #[Ptr gb]] [F] (fun x : Option Addr × Nat × Hp => .slice x.1 (Sm.keysS lv).length x.2.1) (fun x => Row x.2.2 9 1 x.1 (Sm.keysS lv).length x.2.1 (qAL (Sm.keysS lv))) (fun x => [F, x.2.2]) := by
 refine Ct.walk func144 rfl ntmps144 rfl (fun w0 hw0 => ?_)
 refine J.g fun K1 hK1 => J.b rfl <| J.c hK1 <| J.A 0 ?_
 refine J.g fun K2 hK2 => J.b rfl <| J.u (qAB rfl rfl ent181 (Ct.use (fun F' hF => qS0 F' gb gm lv (hb.mono (hF F (by simp))) (hm.mono (hF F (by simp))) hln))) rfl ?_
 rintro ⟨ks, A5, c5, m5⟩ h5
 try dsimp only at h5
 refine J.b rfl <| J.c hK2 <| J.A 3 ?_
 refine J.g fun K3 hK3 => J.b rfl <| J.u (qAB rfl rfl ent182 (Ct.use1 1 rfl (fun F' hF => qRj F' m5 A5 ks.length c5 ks h5.1 (by have := h5.2.length_eq; rw [List.length_map] at this; omega)))) rfl ?_
 rintro m7 h7
 refine J.c hK3 <| J.A 3 ?_
 refine J.g fun K4 hK4 => J.p 2 rfl <| J.c hK4 <| J.A 2 ?_
 refine J.D ?_
 have hks : Sm.srt ks = Sm.keysS lv := Sm.srt_eq h5.2
 have hkn : ks.length = (Sm.keysS lv).length := by rw [← hks, Sm.srt_len]
 rw [hks, hkn] at h7
 exact J.L hw0 rfl (A5, c5, m7) (by rw [hkn]) h7 [0, 1] rfl (by decide)
theorem qJc (F : Hp) (g : Nat) (l : List Sm.PR) (hT : qEX F g l) (hln : l.length ≤ 1000000) : Ct prog 95 [Ptr g] [F] (fun x : Option Addr × Nat × Hp => .slice x.1 (Sm.keysS l).length x.2.1) (fun x => Row x.2.2 9 1 x.1 (Sm.keysS l).length x.2.1 (qAL (Sm.keysS l))) (fun x => [F, x.2.2]) := by
 have hT0 := hT
 obtain ⟨gm, hc, hm⟩ := hT0
 refine Ct.walk func95 rfl ntmps95 rfl (fun w0 hw0 => ?_)
 refine J.g fun K1 hK1 => J.b rfl <| J.c hK1 <| J.A 0 ?_
 refine J.k fun K2 hK2 => J.g fun K3 hK3 => J.b rfl <| J.f ((qBm qTa rfl rfl rfl).as (v' := .bool false) rfl) rfl <| J.c hK3 <| J.M 0 4 ?_
 refine J.b6 ?_
 refine J.a1 hK2 <| J.A 0 ?_
 refine J.g fun K4 hK4 => J.b rfl <| J.f (qAE rfl rfl) rfl <| J.a8 0 qML sizeOf164 rfl rfl rfl rfl rfl <| J.f (qAK rfl rfl isAgg164 (m := F) (by simp) (hc)) rfl <| J.u (qAB rfl rfl ent145 (Ct.use (fun F' _ => qPq F' gm))) rfl ?_
 rintro g9 _
 refine J.u (qAB rfl rfl ent144 (Ct.use (fun F' hF => qMY F' g9 gm l (qAV.blk0.mono (hF (blk g9 [.map (some gm)] 164) (by simp))) (hm.mono (hF F (by simp))) hln))) rfl ?_
 rintro ⟨A10, c10, m10⟩ h10
 try dsimp only at h10
 refine J.b rfl <| J.c hK4 <| J.A 2 ?_
 exact J.D <| J.L hw0 rfl (A10, c10, m10) rfl h10 [0, 2] rfl (by decide)
theorem ent100 : qAC prog 100 := qAC.of func100 rfl (by kernel_rfl)
theorem ent133 : qAC prog 133 := qAC.of func133 rfl (by kernel_rfl)
theorem ent146 : qAC prog 146 := qAC.of func146 rfl (by kernel_rfl)
def nbl (b : List UInt8) (d : Int) (k : List UInt8) : Bool := !Sm.belowB k b (min d.toNat 128)
theorem qJ7 (F : Hp) (k : List UInt8) (hk : k.length ≤ 1000000) (pb pd : Nat) (b : List UInt8) (d : Int) (hpb : qAV F ⟨pb, 0, none⟩ [Str b]) (hpd : qAV F ⟨pd, 0, none⟩ [I d]) (hb : b.length ≤ 1000000) : Ct prog 133 [Str (k), Ptr pb, Ptr pd] [F] (fun _ : Unit => .bool (nbl b d k)) (fun _ => True) (fun _ => [F]) := by
 refine Ct.walk func133 rfl ntmps133 rfl (fun w0 hw0 => ?_)
 refine J.g fun K1 hK1 => J.b rfl <| J.c hK1 <| J.V 0 1 2 ?_
 refine J.g fun K2 hK2 => J.b rfl <| J.f (qAK rfl rfl b9_ (m := F) (by simp) (hpb)) rfl <| J.f (qAK rfl rfl b3_ (m := F) (by simp) (hpd)) rfl <| J.u (qAB rfl rfl ent100 (Ct.use0 (fun F' hF => qEF F' k (by omega) b (by omega) d))) rfl fun g8 _ => J.f (qA2 rfl rfl) rfl <| J.b rfl <| J.c hK2 <| J.A 4 ?_
 exact J.D <| J.L hw0 rfl () (by unfold nbl; rfl) trivial [0] rfl (by decide)
theorem qRo (F : Hp) (A : Option Addr) (n c : Nat) (ks : List (List UInt8)) (hs : Sl F 1 A n c (qAL ks)) (hn : n ≤ 1000000) (hsm : ∀ k : Nat, (ks.getD k []).length ≤ 1000000) (pb pd : Nat) (b : List UInt8) (d : Int) (hpb : qAV F ⟨pb, 0, none⟩ [Str b]) (hpd : qAV F ⟨pd, 0, none⟩ [I d]) (hb : b.length ≤ 1000000) : Ct prog 146 [.slice A n c, .func (.func 133) #[] #[Ptr pb, Ptr pd]] [F] (fun _ : Unit => I (ixS (nbl b d) ks)) (fun _ => True) (fun _ => [F]) := by
 have hkn : ks.length = n := by have := hs.1; simpa [qAL] using this
 refine Ct.walk func146 rfl ntmps146 rfl (fun w0 hw0 => ?_)
 refine J.g fun K1 hK1 => J.b rfl <| J.c hK1 <| J.M 0 1 ?_
 refine J.k fun K2 hK2 => J.g fun K3 hK3 => J.b rfl <| J.f (qAZ qAn rfl rfl) rfl <| J.b rfl <| J.c hK3 <| J.W 0 1 7 8 ?_
 refine J.T <| J.b2 (X := Nat) (fun ζ => [(0, .slice A n c), (1, .func (.func 133) #[] #[Ptr pb, Ptr pd]), (7, I ((n : Nat) : Int)), (8, I ((ζ : Nat) : Int))]) (fun ζ => [F]) (fun ζ => ζ ≤ n ∧ ∀ j < ζ, nbl b d (ks.getD j []) = false) (fun ζ => n - ζ) 0 (⟨Nat.zero_le _, fun j h => absurd h (Nat.not_lt_zero j)⟩) ⟨rfl, rfl, rfl, rfl, trivial⟩ (fun _ h => h) ?_
 rintro k ⟨hk, hno⟩ I0 hI0
 refine J.g fun K4 hK4 => J.f (qAS rfl rfl rfl) rfl <| J.c hK4 <| J.a3 0 1 7 8 9 ?_
 refine J.k fun K5 hK5 => J.a0 rfl (fun h9 => ?_) (fun h9 => ?_)
 ·
  refine J.a1 hK5 <| J.W 0 1 7 8 ?_
  refine J.k fun K6 hK6 => J.T <| J.g fun K7 hK7 => J.p 2 rfl <| J.c hK7 <| J.a3 0 1 5 7 8 ?_
  refine J.g fun K8 hK8 => J.p 3 rfl <| J.f (qAG rfl rfl rfl qAn z9_ hs (by omega)) rfl <| J.f (qAK rfl rfl b9_ (m := F) (by simp) (hs.elem (qAa (qAi [] (by omega))))) rfl <| J.u (qCv rfl rfl rfl ent133 (Ct.use0 (fun F' hF => qJ7 F' (ks.getD k []) (by first | omega | (exact hsm _)) pb pd b d (hpb.mono (hF F (by simp))) (hpd.mono (hF F (by simp))) (by omega)))) rfl fun g16 _ => J.c hK8 <| J.a9 0 1 5 7 8 16 ?_
  refine J.d0 rfl (fun h16 => ?_) (fun h16 => ?_)
  ·
   refine J.g fun K9 hK9 => J.p 2 rfl <| J.c hK9 <| J.A 4 ?_
   exact J.D <| J.b3 <| J.a5 <| J.a5 <| J.b3 <| J.a5 <| J.L hw0 rfl () (by rw [qRA (k := k) (by omega) (by simpa using h16) hno]) trivial [0] rfl (by decide)
  refine J.b7 <| J.a4 <| J.q (J.H hK6 ?_)
  refine J.W 0 1 7 8 ?_
  exact J.E <| J.f ((qAO rfl rfl rfl (by omega)).nat (k + 1) (by omega)) rfl <| J.b rfl <| J.a2 <| J.q <| J.a6 (k + 1) (fun η (hη : _ ∧ n - η < n - k) => hI0 η hη.1 hη.2) ⟨⟨by omega, fun j hj => by rcases Nat.lt_succ_iff_lt_or_eq.1 hj with h | rfl; exact hno j h; simpa using h16⟩, by first | omega | (dsimp only; omega)⟩ ⟨rfl, rfl, rfl, rfl, trivial⟩ (fun _ h => h)
 refine J.b0 <| J.Z <| J.Z <| J.b1 ?_
 refine J.q (J.H hK2 ?_)
 refine J.c6 [] trivial <| J.g fun K10 hK10 => J.b rfl <| J.c hK10 <| J.A 4 ?_
 exact J.D <| J.L hw0 rfl () (by rw [qQ8 (fun j hj => hno j (by omega))]) trivial [0] rfl (by decide)
theorem qRq (F m : Hp) (A : Option Addr) (n c : Nat) (ks : List (List UInt8)) (hr : Row m 9 1 A n c (qAL ks)) (hn : n ≤ 1000000) (hsm : ∀ k : Nat, (ks.getD k []).length ≤ 1000000) (pb pd : Nat) (b : List UInt8) (d : Int) (hpb : qAV F ⟨pb, 0, none⟩ [Str b]) (hpd : qAV F ⟨pd, 0, none⟩ [I d]) (hb : b.length ≤ 1000000) :
    Ct prog 97 [.slice A n c, .func (.func 133) #[] #[Ptr pb, Ptr pd]] [m, F] (fun _ : Hp => .slice A (ks.filter fun k => !nbl b d k).length c) (fun m' => Row m' 9 1 A (ks.filter fun k => !nbl b d k).length c (qAL (ks.filter fun k => !nbl b d k))) (fun m' => [m', F]) := by
  have hkn : ks.length = n := by have := hr.len; simpa [qAL] using this
  have hnc := hr.2.2.1
  refine Ct.walk func97 rfl ntmps97 rfl (fun w0 hw0 => ?_)
  change J _ [(0, _), (1, _)] _ _ _
  refine J.g fun K1 hK1 => J.b rfl <| J.c hK1 <| J.M 0 1 ?_
  refine J.g fun K2 hK2 => J.p 2 rfl <| J.u (qAB rfl rfl ent146 (Ct.use0 (fun F' hF => qRo F' A n c ks (hr.sl.mono (hF m (by simp))) (by omega) (hsm) pb pd b d (hpb.mono (hF F (by simp))) (hpd.mono (hF F (by simp))) (by omega)))) rfl fun g10 _ => J.b rfl <| J.c hK2 <| J.V 0 1 5 ?_
  refine J.k fun K3 hK3 => J.g fun K4 hK4 => J.b rfl <| J.f (qAd rfl rfl rfl) rfl <| J.c hK4 <| J.W 0 1 5 12 ?_
  refine J.a0 rfl (fun h12 => ?_) (fun h12 => ?_)
  ·
    refine J.g fun K5 hK5 => J.p 2 rfl <| J.c hK5 <| J.A 4 ?_
    refine J.D <| J.a5 ?_
    have hf : (ks.filter fun k => !nbl b d k) = ks := qKH h12
    exact J.L hw0 rfl m (by rw [hf, hkn]) (by rw [hf, hkn]; exact hr) [0, 1] rfl (by decide)
  refine J.a1 hK3 <| J.V 0 1 5 ?_
  refine J.k fun K6 hK6 => J.k fun K7 hK7 => ?_
  obtain ⟨i0, h5, hi0, hf0⟩ := qQ9 h12
  obtain ⟨ga, rfl⟩ := hr.at (by omega)
  rw [h5]
  refine J.E <| J.b rfl <| J.f ((qAO rfl rfl rfl (by omega)).nat (i0 + 1) (by omega)) rfl <| J.b rfl <| J.c hK7 <| J.W 0 1 5 6 ?_
  refine J.T <| J.b2 (X := Nat × Nat × List (List UInt8) × Hp) (fun ζ => [(0, .slice (some ⟨ga, 0, none⟩) n c), (1, .func (.func 133) #[] #[Ptr pb, Ptr pd]), (5, I ((ζ.1 : Nat) : Int)), (6, I ((ζ.2.1 : Nat) : Int))]) (fun ζ => [ζ.2.2.2, F]) (fun ζ => ζ.1 < ζ.2.1 ∧ ζ.2.1 ≤ n ∧ ζ.2.2.1.length = n ∧ ζ.2.2.1.take ζ.1 = (ks.take ζ.2.1).filter (fun k => !nbl b d k) ∧ ζ.2.2.1.drop ζ.2.1 = ks.drop ζ.2.1 ∧ Row ζ.2.2.2 9 1 (some ⟨ga, 0, none⟩) n c (qAL ζ.2.2.1)) (fun ζ => n - ζ.2.1) (i0, i0 + 1, ks, m) (⟨by dsimp only; omega, by dsimp only; omega, hkn, hf0, rfl, hr⟩) ⟨rfl, rfl, rfl, rfl, trivial⟩ (fun _ h => h) ?_
  rintro ⟨w, j, L, m⟩ ⟨hw, hj, hL, hA, hB, hr⟩ I0 hI0
  dsimp only at hw hj hL hA hB hr ⊢
  refine J.k fun K8 hK8 => J.g fun K9 hK9 => J.p 2 rfl <| J.f (qAZ qAn rfl rfl) rfl <| J.f (qAS rfl rfl rfl) rfl <| J.c hK9 <| J.a3 0 1 5 6 19 ?_
  refine J.a0 rfl (fun h19 => ?_) (fun h19 => ?_)
  ·
    refine J.a1 hK8 <| J.W 0 1 5 6 ?_
    refine J.k fun K10 hK10 => J.T <| J.g fun K11 hK11 => J.p 2 rfl <| J.f (qAJ (i := j) (j := 0 + j * 1) rfl rfl rfl qAn z9_ (by omega) (by omega)) rfl ?_
    have hnw : w < j := hw
    refine J.f (qAK rfl rfl b9_ (m := m) (by simp) (hr.sl.cells (qAa (qAi [] (by omega))))) rfl <| J.b rfl <| J.c hK11 <| J.a3 0 1 5 6 7 ?_
    refine J.k fun K12 hK12 => ?_
    have hgj : (L.getD j []).length ≤ 1000000 := by
      have e0 := congrArg (fun z => z.getD 0 []) hB
      have e1 : L.getD j [] = ks.getD j [] := by simpa [List.getD_eq_getElem?_getD, List.getElem?_drop] using e0
      rw [e1]; exact hsm j
    refine J.E <| J.p 2 rfl <| J.u (qCv rfl rfl rfl ent133 (Ct.use0 (fun F' hF => qJ7 F' (L.getD j []) (by first | omega | (exact hsm _)) pb pd b d (hpb.mono (hF F (by simp))) (hpd.mono (hF F (by simp))) (by omega)))) rfl fun g28 _ => J.f (qA2 rfl rfl) rfl <| J.c hK12 <| J.a9 0 1 5 6 7 29 ?_
    refine J.d0 rfl (fun h29 => ?_) (fun h29 => ?_)
    ·
      refine J.g fun K13 hK13 => J.p 3 rfl <| J.f (qAJ (i := w) (j := 0 + w * 1) rfl rfl rfl qAn z9_ (by omega) (by omega)) rfl <| J.c1 (qA9 (i := 0) (k := w) (off := 0) (b := [Str (L.getD j [])]) rfl rfl rfl rfl hr (vs := [Str (L.getD j [])]) rfl z9_ rfl (by omega) (qAa (qAi [] (by omega))) rfl (Nat.le_refl _)) rfl rfl ?_
      rintro m9_1 hm9_1
      rw [qFA] at hm9_1
      refine J.c hK13 <| J.W 0 1 5 6 ?_
      refine J.E <| J.b rfl <| J.f ((qAO rfl rfl rfl (by omega)).nat (w + 1) (by omega)) rfl <| J.b rfl <| J.a2 <| J.a4 <| J.q (J.H hK10 ?_)
      refine J.W 0 1 5 6 ?_
      exact J.E <| J.b rfl <| J.f ((qAO rfl rfl rfl (by omega)).nat (j + 1) (by omega)) rfl <| J.b rfl <| J.a2 <| J.q <| J.a6 (w + 1, j + 1, L.set w (L.getD j []), m9_1) (fun η (hη : _ ∧ n - η.2.1 < n - j) => hI0 η hη.1 hη.2) ⟨⟨by dsimp only; omega, by dsimp only; omega, by dsimp only; rw [List.length_set]; exact hL, (qEw hw (by omega) (by omega) hA hB (by simpa using h29)).1, (qEw hw (by omega) (by omega) hA hB (by simpa using h29)).2, by assumption⟩, by first | omega | (dsimp only; omega)⟩ ⟨rfl, rfl, rfl, rfl, trivial⟩ (fun _ h => h)
    refine J.b7 <| J.a4 <| J.q (J.H hK10 ?_)
    refine J.W 0 1 5 6 ?_
    exact J.E <| J.b rfl <| J.f ((qAO rfl rfl rfl (by omega)).nat (j + 1) (by omega)) rfl <| J.b rfl <| J.a2 <| J.q <| J.a6 (w, j + 1, L, m) (fun η (hη : _ ∧ n - η.2.1 < n - j) => hI0 η hη.1 hη.2) ⟨⟨by dsimp only; omega, by dsimp only; omega, hL, (qEx (by omega) hA hB (by simpa using h29)).1, (qEx (by omega) hA hB (by simpa using h29)).2, hr⟩, by first | omega | (dsimp only; omega)⟩ ⟨rfl, rfl, rfl, rfl, trivial⟩ (fun _ h => h)
  refine J.b0 <| J.Z <| J.Z <| J.b1 ?_
  refine J.q (J.H hK6 ?_)
  refine J.M 0 5 ?_
  refine J.g fun K14 hK14 => J.p 2 rfl <| J.f (qCu rfl rfl qAn z9_ rfl rfl (by omega)) rfl <| J.c1 (qD5 (i := 0) (l := w) (h := n) rfl rfl (by split <;> simp [Addr.add_lit]) qAn el9 rfl rfl rfl (hr.shrink (by omega)) rfl (by omega) (by omega)) rfl rfl ?_
  rintro mc hmc
  refine J.c hK14 <| J.M 0 5 ?_
  refine J.g fun K15 hK15 => J.p 2 rfl <| J.f (qCe rfl rfl qAn z9_ rfl (by omega)) rfl <| J.b rfl <| J.c hK15 <| J.A 4 ?_
  refine J.D ?_
  have hfl : (ks.filter fun k => !nbl b d k) = L.take w := by rw [hA, List.take_of_length_le (by omega)]
  have hfw : (ks.filter fun k => !nbl b d k).length = w := by rw [hfl, List.length_take]; omega
  rw [qDL, ← hfl] at hmc
  exact J.L hw0 rfl mc (by rw [hfw]) (by rw [hfw]; exact hmc) [0, 1] rfl (by decide)
theorem ent95 : qAC prog 95 := qAC.of func95 rfl (by kernel_rfl)
theorem ent97 : qAC prog 97 := qAC.of func97 rfl (by kernel_rfl)
theorem ent134 : qAC prog 134 := qAC.of func134 rfl (by kernel_rfl)
theorem ent176 : qAC prog 176 := qAC.of func176 rfl (by kernel_rfl)
def qRI (f : Nat) : Prop := ∀ (F : Hp) (hK : KF F) (g : Nat) (l : List Sm.PR) (hT : qEX F g l) (hv : ∀ p ∈ l, p.2.length ≤ 1000000) (A : Option Addr) (n c : Nat) (ks : List (List UInt8)) (hs : Sl F 1 A n c (qAL ks)) (hn : n ≤ 1000000) (hw : Sm.WF f (Sm.prs l ks)) (hu : Sm.Up (Sm.prs l ks)) (d : Nat) (hd : d + f = 128), Ct prog 134 [Ptr g, .slice A n c, I ((d : Nat) : Int)] [F] (fun _ : Unit => Str (Sm.nd f (Sm.prs l ks))) (fun _ => True) (fun _ => [F])
theorem qGV {l : List Sm.PR} (hv : ∀ p ∈ l, p.2.length ≤ 1000000) (k : List UInt8) : ((Sm.getP l k).getD []).length ≤ 1000000 := by
 cases h : Sm.getP l k with
 | none => exact Nat.zero_le _
 | some v => exact hv _ (Sm.getP_some h)
theorem qM0 {f : Nat} {l : List Sm.PR} {ks : List (List UInt8)} (hw : Sm.WF f (Sm.prs l ks)) {j : Nat} (hj : j < ks.length) : (ks.getD j []).length = 16 := by
 have h : j < (Sm.prs l ks).length := by rw [Sm.prs_len]; exact hj
 have h1 := hw.2.1 _ (List.getElem_mem h)
 rw [Sm.prs_get l ks h hj] at h1
 rw [List.getD_eq_getElem?_getD, List.getElem?_eq_getElem hj]; exact h1
theorem qMz {f : Nat} {l : List Sm.PR} {ks : List (List UInt8)} (hw : Sm.WF f (Sm.prs l ks)) (j : Nat) : (ks.getD j []).length ≤ 1000000 := by
 by_cases hj : j < ks.length
 · rw [qM0 hw hj]; decide
 · rw [List.getD_eq_getElem?_getD, List.getElem?_eq_none (by omega)]; decide
theorem qM1 {f d : Nat} {l : List Sm.PR} {ks : List (List UInt8)} (hw : Sm.WF (f + 1) (Sm.prs l ks)) (hd : d + (f + 1) = 128) {j : Nat} (h : j < (Sm.prs l ks).length) : Sm.bit (ks.getD j []) d = Sm.kv (Sm.prs l ks)[j].1 / 2 ^ f % 2 := by
 have hj : j < ks.length := by rw [Sm.prs_len] at h; exact h
 rw [Sm.bit_kv (qM0 hw hj) (by omega), Sm.prs_get l ks h hj, List.getD_eq_getElem?_getD, List.getElem?_eq_getElem hj, show 127 - d = f by omega]; rfl
theorem qGC (f : Nat) (ih : ∀ f', f = f' + 1 → qRI f') (F : Hp) (hK : KF F) (g : Nat) (l : List Sm.PR) (hT : qEX F g l) (hv : ∀ p ∈ l, p.2.length ≤ 1000000) (A : Option Addr) (n c : Nat) (ks : List (List UInt8)) (hs : Sl F 1 A n c (qAL ks)) (hn : n ≤ 1000000) (hw : Sm.WF f (Sm.prs l ks)) (hu : Sm.Up (Sm.prs l ks)) (d : Nat) (hd : d + f = 128) :
    Ct prog 134 [Ptr g, .slice A n c, I ((d : Nat) : Int)] [F] (fun _ : Unit => Str (Sm.nd f (Sm.prs l ks))) (fun _ => True) (fun _ => [F]) := by
  have hkn : ks.length = n := by have := hs.1; simpa [qAL] using this
  have hT0 := hT
  obtain ⟨gm, hc, hm⟩ := hT0
  have hsm := qMz hw
  have hnc := hs.2.1
  refine Ct.walk func134 rfl ntmps134 rfl (fun w0 hw0 => ?_)
  change J _ [(0, _), (1, _), (2, _)] _ _ _
  refine J.g fun K1 hK1 => J.b rfl <| J.c hK1 <| J.V 0 1 2 ?_
  refine J.k fun K2 hK2 => J.g fun K3 hK3 => J.b rfl <| J.f (qAZ qAn rfl rfl) rfl <| J.c hK3 <| J.W 0 1 2 9 ?_
  refine J.T <| J.g fun K4 hK4 => J.f (qAd rfl rfl rfl) rfl <| J.b rfl <| J.c hK4 <| J.a3 0 1 2 9 10 ?_
  refine J.a0 rfl (fun h10 => ?_) (fun h10 => ?_)
  ·
    refine J.g fun K5 hK5 => J.b rfl <| J.c hK5 <| J.A 6 ?_
    exact J.D <| J.b3 <| J.a5 <| J.L hw0 rfl () (by rw [List.eq_nil_of_length_eq_zero (show ks.length = 0 by omega)]; show _ = Str (Sm.nd f []); rw [Sm.nd_nil]) trivial [0] rfl (by decide)
  refine J.g fun K6 hK6 => J.f (qAd rfl rfl rfl) rfl <| J.b rfl <| J.c hK6 <| J.W 0 1 2 12 ?_
  refine J.a0 rfl (fun h12 => ?_) (fun h12 => ?_)
  ·
    refine J.k fun K7 hK7 => ?_
    have hk0 := hsm 0
    have hv0 := qGV hv (ks.getD 0 [])
    refine J.b5 [F] [] (.y 0 (.y 1 (.y 2 (.y 3 (.y 4 (.y 5 (.y 6 (.y 7 (.y 8 (.y 9 (.y 10 (.e 11 (.y 12 .nil))))))))))))) Tryz.wide (by decide +kernel) (by simp) ?_
    refine J.G ?_
    refine J.j rfl (qAG (i := 0) rfl rfl rfl qAn z9_ hs (by omega)) rfl rfl <| J.j rfl (qAK rfl rfl b9_ (m := F) (by simp) (hs.elem (qAa (qAi [] (by omega))))) rfl rfl <| J.G ?_
    refine J.j rfl (qAE rfl rfl) rfl rfl <| J.j rfl (qAA rfl rfl qML rfl sizeOf164 rfl) rfl rfl <| J.j rfl (qAK (v := .map (some gm)) rfl rfl isAgg164 (m := F) (by simp) (hc)) rfl rfl <| J.G ?_
    refine J.j rfl (qAG (i := 0) rfl rfl rfl qAn z9_ hs (by omega)) rfl rfl <| J.j rfl (qAK rfl rfl b9_ (m := F) (by simp) (hs.elem (qAa (qAi [] (by omega))))) rfl rfl <| J.j rfl ((qLM rfl rfl rfl underlying164 u9_ e9_ (m := F) (by simp) hm).as (v' := Str ((Sm.getP l (ks.getD 0 [])).getD [])) (by rw [qI9, qNk])) rfl rfl <| J.a7 rfl (qAB rfl rfl ent176 (Ct.use0 (fun F' hF => qJh F' (hK.mo hF) (ks.getD 0 []) ((Sm.getP l (ks.getD 0 [])).getD []) (by first | omega | exact Nat.le_of_ble_eq_true rfl) (by first | omega | exact Nat.le_of_ble_eq_true rfl)))) rfl (by simp) fun g25 _ => J.c0 ?_
    refine J.b4 <| J.q (J.H hK7 ?_)
    refine J.A 6 ?_
    exact J.D <| J.b3 <| J.a5 <| J.L hw0 rfl () (by obtain ⟨k, rfl⟩ := List.length_eq_one_iff.1 (show ks.length = 1 by omega); exact (congrArg Str (Sm.nd_one f (k, (Sm.getP l k).getD []))).symm) trivial [0] rfl (by decide)
  obtain ⟨f', rfl⟩ : ∃ f', f = f' + 1 := Nat.exists_eq_succ_of_ne_zero (fun e => by subst e; have := hw.short; rw [Sm.prs_len] at this; omega)
  refine J.b7 <| J.a4 <| J.q (J.H hK2 ?_)
  refine J.V 0 1 2 ?_
  refine J.g fun K8 hK8 => J.b rfl <| J.c hK8 <| J.W 0 1 2 7 ?_
  refine J.e5 (X := Nat) (fun ζ => [(0, Ptr g), (1, .slice A n c), (2, I ((d : Nat) : Int)), (7, I ((ζ : Nat) : Int))]) (fun ζ => [F]) (fun ζ => ζ ≤ n ∧ (∀ j < ζ, Sm.bit (ks.getD j []) d = 0) ∧ (ζ < n → Sm.bit (ks.getD ζ []) d ≠ 0)) (fun K9 hK9 => ?_) ?_
  ·
    refine J.T <| J.b2 (X := Nat) (fun ζ => [(0, Ptr g), (1, .slice A n c), (2, I ((d : Nat) : Int)), (7, I ((ζ : Nat) : Int))]) (fun ζ => [F]) (fun ζ => ζ ≤ n ∧ ∀ j < ζ, Sm.bit (ks.getD j []) d = 0) (fun ζ => n - ζ) 0 (⟨Nat.zero_le _, fun j h => absurd h (Nat.not_lt_zero j)⟩) ⟨rfl, rfl, rfl, rfl, trivial⟩ (fun _ h => h) ?_
    rintro k ⟨hk, hno⟩ I1 hI1
    have hsk := hsm k
    refine J.k fun K10 hK10 => J.g fun K11 hK11 => J.p 2 rfl <| J.f (qAZ qAn rfl rfl) rfl <| J.f (qAS rfl rfl rfl) rfl <| J.b rfl <| J.c3 (d := 30) rfl (fun h30 => ?_) (fun h30 => ?_)
    ·
      refine J.p 2 rfl <| J.O (qAG rfl rfl rfl qAn z9_ hs (by omega)) rfl <| J.O (qAK rfl rfl b9_ (m := F) (by simp) (hs.elem (qAa (qAi [] (by omega))))) rfl <| J.b rfl <| J.d7 (qAB rfl rfl ent147 (Ct.use0 (fun F' hF => qKS F' (ks.getD k []) (by first | omega | exact hsm _) d (by omega)))) rfl fun g36 _ => J.O (qAd rfl rfl rfl) rfl <| J.b rfl <| J.c hK11 <| J.a3 0 1 2 7 38 ?_
      refine J.a0 rfl (fun h38 => ?_) (fun h38 => ?_)
      ·
        refine J.a1 hK10 <| J.W 0 1 2 7 ?_
        exact J.T <| J.E <| J.b rfl <| J.f ((qAO rfl rfl rfl (by omega)).nat (k + 1) (by omega)) rfl <| J.b rfl <| J.a2 <| J.a4 <| J.q <| J.a6 (k + 1) (fun η (hη : _ ∧ n - η < n - k) => hI1 η hη.1 hη.2) ⟨⟨by omega, fun j hj => by rcases Nat.lt_succ_iff_lt_or_eq.1 hj with h | rfl; exact hno j h; omega⟩, by first | omega | (dsimp only; omega)⟩ ⟨rfl, rfl, rfl, rfl, trivial⟩ (fun _ h => h)
      refine J.b0 <| J.Z <| J.Z <| J.b1 ?_
      exact J.q <| J.a6 (k) hK9 (⟨by omega, hno, fun h => by omega⟩) ⟨rfl, rfl, rfl, rfl, trivial⟩ (fun _ h => h)
    refine J.p 8 rfl <| J.c hK11 <| J.a3 0 1 2 7 38 ?_
    refine J.b6 ?_
    refine J.b0 <| J.Z <| J.Z <| J.b1 ?_
    exact J.q <| J.a6 (k) hK9 (⟨by omega, hno, fun h => by omega⟩) ⟨rfl, rfl, rfl, rfl, trivial⟩ (fun _ h => h)
  rintro k ⟨hk, hk0, hk1⟩
  refine J.k fun K12 hK12 => ?_
  have hup := Sm.up_bits hw hu (k := k) (fun j hj hjk => by rw [← qM1 hw hd hj]; exact hk0 j hjk) (fun hj => by rw [← qM1 hw hd hj]; exact hk1 (by rw [Sm.prs_len] at hj; omega))
  have hW1 : Sm.WF f' (Sm.prs l (ks.take k)) := by rw [Sm.prs_take, hup.1]; exact hw.side true
  have hW2 : Sm.WF f' (Sm.prs l (ks.drop k)) := by rw [Sm.prs_drop, hup.2]; exact hw.side false
  have hU1 : Sm.Up (Sm.prs l (ks.take k)) := by rw [Sm.prs_take]; exact hu.sub (List.take_sublist _ _)
  have hU2 : Sm.Up (Sm.prs l (ks.drop k)) := by rw [Sm.prs_drop]; exact hu.sub (List.drop_sublist _ _)
  have hz1 := Sm.nd_small f' (Sm.prs l (ks.take k))
  have hz2 := Sm.nd_small f' (Sm.prs l (ks.drop k))
  refine J.b5 [F] [] (.y 0 (.y 1 (.y 2 (.y 3 (.y 4 (.y 5 (.y 7 (.y 8 (.y 9 (.y 10 (.y 11 (.y 12 (.e 6 (.e 13 (.e 14 (.y 15 .nil)))))))))))))))) Tryz.wide (by decide +kernel) (by simp) ?_
  iterate 3 refine J.G ?_
  refine J.j rfl (qCe rfl rfl qAn z9_ rfl (by omega)) rfl rfl <| J.G ?_
  refine J.j rfl ((qAO rfl rfl rfl (by omega)).nat (d + 1) (by omega)) rfl rfl <| J.G ?_
  refine J.G ?_
  refine J.G ?_
  refine J.j rfl (qCu rfl rfl qAn z9_ rfl rfl (by omega)) rfl rfl <| J.G ?_
  refine J.j rfl ((qAO rfl rfl rfl (by omega)).nat (d + 1) (by omega)) rfl rfl <| J.a7 rfl (qAB rfl rfl ent134 (Ct.use0 (fun F' hF => ih f' rfl F' (hK.mo hF) g l (hT.mono (hF F (by simp))) hv A k c (ks.take k) ((hs.strsTo (by omega)).mono (hF F (by simp))) (by omega) hW1 hU1 (d + 1) (by omega)))) rfl (by simp) fun g47 _ => J.a7 rfl (qAB rfl rfl ent134 (Ct.use0 (fun F' hF => ih f' rfl F' (hK.mo hF) g l (hT.mono (hF F (by simp))) hv (if c = k then A else A.map (·.add (k * 1))) (n - k) (c - k) (ks.drop k) ((hs.strsFrom (by omega)).mono (hF F (by simp))) (by omega) hW2 hU2 (d + 1) (by omega)))) rfl (by simp) fun g54 _ => J.a7 rfl (qAB rfl rfl ent177 (Ct.use0 (fun F' hF => qEm F' (hK.mo hF) (Sm.nd f' (Sm.prs l (ks.take k))) (Sm.nd f' (Sm.prs l (ks.drop k))) (by omega) (by omega)))) rfl (by simp) fun g55 _ => J.c0 ?_
  refine J.b4 <| J.q (J.H hK12 ?_)
  refine J.A 6 ?_
  exact J.D <| J.L hw0 rfl () (by rw [Sm.nd_two f' (by rw [Sm.prs_len]; omega), ← hup.1, ← hup.2, Sm.prs_take, Sm.prs_drop]) trivial [0] rfl (by decide)
theorem qJb : ∀ f, qRI f
 | 0 => fun F hK g l hT hv A n c ks hs hn hw hu d hd => qGC 0 (fun f' h => absurd h (Nat.succ_ne_zero f').symm) F hK g l hT hv A n c ks hs hn hw hu d hd
 | f + 1 => fun F hK g l hT hv A n c ks hs hn hw hu d hd => qGC (f + 1) (fun f' h => by injection h with h; subst h; exact qJb f) F hK g l hT hv A n c ks hs hn hw hu d hd
theorem qFb {l : List Sm.PR} (hk : ∀ p ∈ l, p.1.length = 16) (j : Nat) : ((Sm.keysS l).getD j []).length ≤ 1000000 := by
  by_cases hj : j < (Sm.keysS l).length
  · rw [List.getD_eq_getElem?_getD, List.getElem?_eq_getElem hj]
    obtain ⟨v, hv⟩ := Sm.keysS_mem.1 (List.getElem_mem hj)
    show ((Sm.keysS l)[j]).length ≤ 1000000
    rw [show (Sm.keysS l)[j].length = 16 from hk _ hv]; decide
  · rw [List.getD_eq_getElem?_getD, List.getElem?_eq_none (by omega)]; decide
theorem qNn (l : List Sm.PR) (b : List UInt8) (d : Int) : Sm.prs l ((Sm.keysS l).filter fun k => !nbl b d k) = Sm.bel (Sm.prs l (Sm.keysS l)) b (min d.toNat 128) := by
 rw [Sm.prs_filter]
 unfold Sm.bel nbl
 congr 1
 funext p
 rw [Bool.not_not]
theorem qKU {l : List Sm.PR} (ho : Sm.Once l) (b : List UInt8) (D : Nat) : (Sm.bel l b D).Perm (Sm.bel (Sm.prs l (Sm.keysS l)) b D) := (Sm.prs_perm ho).symm.filter _
structure qE1 (l : List Sm.PR) : Prop where
 once : Sm.Once l
 k16 : ∀ p ∈ l, p.1.length = 16
 small : ∀ p ∈ l, p.2.length ≤ 1000000
 few : l.length ≤ 1000000
theorem qJd (F : Hp) (hK : KF F) (g : Nat) (l : List Sm.PR) (hT : qEX F g l) (hf : qE1 l) (b : List UInt8) (hb : b.length ≤ 1000000) (d : Int) (hw : Sm.WF (128 - min d.toNat 128) (Sm.bel l b (min d.toNat 128))) : Ct prog 75 [Ptr g, Str (b), I (d)] [F] (fun _ : Unit => Str (Sm.ndB l b (min d.toNat 128))) (fun _ => True) (fun _ => [F]) := by
 have hln := hf.few
 have hkl := Sm.keysS_len l
 have hfl : ((Sm.keysS l).filter fun k => !nbl b d k).length ≤ (Sm.keysS l).length := List.length_filter_le _ _
 have hW : Sm.WF (128 - min d.toNat 128) (Sm.prs l ((Sm.keysS l).filter fun k => !nbl b d k)) := by rw [qNn]; exact hw.perm (qKU hf.once _ _)
 have hU : Sm.Up (Sm.prs l ((Sm.keysS l).filter fun k => !nbl b d k)) := by rw [Sm.prs_filter]; exact (Sm.prs_up hf.once hf.k16).sub List.filter_sublist
 have hR : Sm.nd (128 - min d.toNat 128) (Sm.prs l ((Sm.keysS l).filter fun k => !nbl b d k)) = Sm.ndB l b (min d.toNat 128) := by rw [qNn]; exact (Sm.nd_perm _ hw (qKU hf.once _ _)).symm
 refine Ct.walk func75 rfl ntmps75 rfl (fun w0 hw0 => ?_)
 refine J.g fun K1 hK1 => J.u (qAl rfl rfl rfl) rfl fun g4 _ => J.u (qAl rfl rfl rfl) rfl fun g5 _ => J.b rfl <| J.c hK1 <| J.V 0 4 5 ?_
 refine J.k fun K2 hK2 => J.g fun K3 hK3 => J.b rfl <| J.f ((qBm qTa rfl rfl rfl).as (v' := .bool false) rfl) rfl <| J.c hK3 <| J.W 0 4 5 9 ?_
 refine J.b6 ?_
 refine J.a1 hK2 <| J.V 0 4 5 ?_
 refine J.g fun K4 hK4 => J.b rfl <| J.u (qAB rfl rfl ent95 (Ct.use (fun F' hF => qJc F' g l (hT.mono (hF F (by simp))) (by omega)))) rfl ?_
 rintro ⟨A11, c11, m11⟩ h11
 try dsimp only at h11
 refine J.f (qBh rfl rfl) rfl <| J.u (qAB rfl rfl ent97 (Ct.use1 3 rfl (fun F' hF => qRq F' m11 A11 (Sm.keysS l).length c11 (Sm.keysS l) h11 (by omega) (qFb hf.k16) g4 g5 b d (qAV.blk0.mono (hF (blk g4 [Str (b)] 9) (by simp))) (qAV.blk0.mono (hF (blk g5 [I (d)] 3) (by simp))) hb))) rfl ?_
 rintro m13 h13
 refine J.b rfl <| J.c hK4 <| J.V 0 5 7 ?_
 refine J.g fun K5 hK5 => J.p 2 rfl <| J.c4 2 b3_ rfl rfl rfl rfl rfl <| J.f ((qJy rfl rfl rfl).nat (d.toNat) (by omega)) rfl <| J.f ((qJx rfl rfl rfl).nat (min d.toNat 128) (by omega)) rfl <| J.u (qAB rfl rfl ent134 (Ct.use0 (fun F' hF => qJb (128 - min d.toNat 128) F' (hK.mo hF) g l (hT.mono (hF F (by simp))) hf.small A11 _ c11 _ (h13.sl.mono (hF m13 (by simp))) (by omega) hW hU (min d.toNat 128) (by omega)))) rfl fun g19 _ => J.b rfl <| J.c hK5 <| J.A 6 ?_
 exact J.D <| J.L hw0 rfl () (by rw [hR]) trivial [0] rfl (by decide)
theorem qMA {l : List Sm.PR} {b : List UInt8} (hf : qE1 l) : Sm.WF (128 - min (0 : Int).toNat 128) (Sm.bel l b (min (0 : Int).toNat 128)) := by
 show Sm.WF 128 (Sm.bel l b 0)
 rw [Sm.bel_zero]; exact Sm.WF.top hf.once hf.k16
theorem qQn {l : List Sm.PR} {b : List UInt8} {d : Int} (hf : qE1 l) (hb : b.length = 16) : Sm.WF (128 - min d.toNat 128) (Sm.bel l b (min d.toNat 128)) := Sm.bel_wf hf.once hf.k16 hb (Nat.min_le_right _ _)
structure qIZ (m : List Pr) (kv : List Sm.PR) : Prop where
 fine : qE1 kv
 perm : (m.map toP).Perm kv
theorem qIZ.once {m : List Pr} {kv : List Sm.PR} (h : qIZ m kv) : Sm.Once (m.map toP) := h.fine.once.perm h.perm.symm
theorem qIZ.k16 {m : List Pr} {kv : List Sm.PR} (h : qIZ m kv) : ∀ p ∈ m.map toP, p.1.length = 16 := fun p q => h.fine.k16 p (h.perm.mem_iff.1 q)
theorem qIZ.wf {m : List Pr} {kv : List Sm.PR} (h : qIZ m kv) : Sm.WF 128 (m.map toP) := Sm.WF.top h.once h.k16
theorem qIZ.get {m : List Pr} {kv : List Sm.PR} (h : qIZ m kv) {j : Nat} (hj : j < m.length) : Sm.getP kv (m.getD j noPr).k = some (m.getD j noPr).v := by
 rw [List.getD_eq_getElem?_getD, List.getElem?_eq_getElem hj]
 exact Sm.getP_mem h.fine.once (p := toP m[j]) (h.perm.mem_iff.1 (List.mem_map.2 ⟨_, List.getElem_mem hj, rfl⟩))
structure Pu where
 a : UInt8
 b : UInt8
 v : List UInt8
 deriving DecidableEq
def Pu.cells (x : Pu) : List Value := [B8 (x.a), B8 (x.b), Str (x.v)]
end Go.Proofs.YtfldiegfenndjaaGreatDoor
