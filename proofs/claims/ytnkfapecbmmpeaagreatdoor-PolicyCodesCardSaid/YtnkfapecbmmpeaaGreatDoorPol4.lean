/- A part of the proof: contracts of functions of the program, each for every state of the heaps that it names. -/
import Derived.Test.YtnkfapecbmmpeaaGreatDoorPol3
import Derived.Test.YtnkfapecbmmpeaaGreatDoorFwR
set_option linter.unusedSimpArgs false
set_option linter.unusedVariables false
namespace Go.Proofs.YtnkfapecbmmpeaaGreatDoor
open Go Go.Fw
set_option maxRecDepth 100000
set_option maxHeartbeats 1000000
theorem ent4 : Enters Tryz.prog 4 := Enters.of Tryz.func4 rfl (by kernel_rfl)
theorem ent5 : Enters Tryz.prog 5 := Enters.of Tryz.func5 rfl (by kernel_rfl)
theorem ent6 : Enters Tryz.prog 6 := Enters.of Tryz.func6 rfl (by kernel_rfl)
theorem ent7 : Enters Tryz.prog 7 := Enters.of Tryz.func7 rfl (by kernel_rfl)
theorem ent9 : Enters Tryz.prog 9 := Enters.of Tryz.func9 rfl (by kernel_rfl)
theorem ent10 : Enters Tryz.prog 10 := Enters.of Tryz.func10 rfl (by kernel_rfl)
theorem ent13 : Enters Tryz.prog 13 := Enters.of Tryz.func13 rfl (by kernel_rfl)

theorem enVal_len {v : Nat} {o r : List UInt8} {h : Int} {p : List UInt8} (hE : enErr v o r h p = 0) : (enVal v o r h p).length = 16 := by unfold enVal; rw [if_pos hE, Sha.tagged_length]
theorem en_key {v : Nat} {seed : List UInt8} {kh : Nat} {p : List UInt8} (h1 : 1 ≤ v) (h2 : v ≤ 4294967295) (h3 : kh ≤ 6) (hp : p.length = 16) : enErr v (Wo.opn seed) (Xm.root seed kh) ((kh : Nat) : Int) p = 0 := (en_0 (by omega) (by omega) (by omega) (by omega) (Wo.opn_length _) (Mk.root_16 _ _) hp).1
theorem nAlice : normal [97, 108, 105, 99, 101] = ([97, 108, 105, 99, 101], 0) := normal_lit (l := [97, 108, 105, 99, 101]) (by decide) (by decide) (by decide)
theorem nextK {x y : En} (h1 : x.v < 4294967295) (h2 : y.v = x.v + 1) (h3 : x.val.length = 16) (h4 : y.p = x.val) : x.next y = 0 := by
  unfold En.next
  rw [if_neg (by omega), if_neg]
  rintro (h | h)
  · rw [h] at h3; cases h3
  · exact h h4
attribute [local irreducible] Sha.tagged Wo.pub Wo.publicOf Wo.signs Wo.ends Wo.digs Wo.walk Wo.opn Mk.root Mk.path Mk.climb Xm.root sgC sgP enEnc enErr sgB enVal upB

theorem speaks18_ct (F : Hp) (hK : Cells F ⟨0, 0, none⟩ (Sha.K.map W32)) (hA : Cells F ⟨1, 0, none⟩ alphaV) (hT : TabsF F) : Ct Tryz.prog 4 [] [F] (fun _ : Unit => .bool true) (fun _ => True) (fun _ => [F]) := by
  have hz16 : ([0, 0, 0, 0, 0, 0, 0, 0, 0, 0, 0, 0, 0, 0, 0, 0] : List UInt8).length = 16 := rfl
  have ho := Wo.opn_length [97]
  have hr := Mk.root_16 [97] 1
  have hE1 : enErr 1 (Wo.opn ([97])) (Xm.root ([97]) (1)) ((1 : Nat) : Int) [0, 0, 0, 0, 0, 0, 0, 0, 0, 0, 0, 0, 0, 0, 0, 0] = 0 := en_key (by decide) (by decide) (by decide) rfl
  have hv1 : (enVal 1 (Wo.opn ([97])) (Xm.root ([97]) (1)) ((1 : Nat) : Int) [0, 0, 0, 0, 0, 0, 0, 0, 0, 0, 0, 0, 0, 0, 0, 0]).length = 16 := enVal_len hE1
  have hE2 : enErr 2 (Wo.opn ([97])) (Xm.root ([97]) (1)) ((1 : Nat) : Int) (enVal 1 (Wo.opn ([97])) (Xm.root ([97]) (1)) ((1 : Nat) : Int) [0, 0, 0, 0, 0, 0, 0, 0, 0, 0, 0, 0, 0, 0, 0, 0]) = 0 := en_key (by decide) (by decide) (by decide) hv1
  refine Ct.walk Tryz.func4 rfl Tryz.ntmps4 rfl (fun w0 hw0 => ?_)
  change J _ [] _ _ _
  refine J.seq (fun K1 hK1 => ?_)
  refine J.region ?_
  refine J.y (op_assign rfl rfl) rfl rfl rfl ?_
  refine J.nil ?_
  refine J.then_n (J.k hK1 ?_)
  refine J.keepE [] trivial ?_
  refine J.seq (fun K2 hK2 => ?_)
  refine J.region ?_
  refine J.e (op_call rfl rfl ent5 (Ct.use (new := fun x : Nat × Hp => [x.2]) (fun F' hF => xnewK_ct F' (hK.mono (hF F (by simp))) [97] 1 (by decide) (by decide)))) rfl rfl rfl ?_
  rintro ⟨g10, m10⟩ h10
  try dsimp only at h10
  change J _ ((10, .tuple #[Ptr g10, I 0]) :: _) _ [F, m10] _
  refine J.y (op_move rfl rfl) rfl rfl rfl ?_
  refine J.y (op_extract (v := Ptr g10) rfl rfl rfl) rfl rfl rfl ?_
  refine J.y (op_extract (v := I ((0 : Nat) : Int)) rfl rfl rfl) rfl rfl rfl ?_
  refine J.y (op_assign rfl rfl) rfl rfl rfl ?_
  refine J.y (op_assign rfl rfl) rfl rfl rfl ?_
  refine J.nil ?_
  refine J.then_n (J.k hK2 ?_)
  refine J.keepE [(1, _), (2, _)] ⟨rfl, rfl, trivial⟩ ?_
  refine J.seq (fun K3 hK3 => ?_)
  refine J.region ?_
  refine J.y (op_move rfl rfl) rfl rfl rfl ?_
  refine J.e (op_call rfl rfl ent6 (Ct.use0 (fun F' hF => xpubK_ct F' g10 ([97]) 1 (h10.mono (hF m10 (by simp)))))) rfl rfl rfl ?_
  intro g14 _
  refine J.y (op_buildStruct (l := [(0, .const ((Value.int IntKind.u64 1))), (1, .tmp 14), (2, .const ((Value.string (ByteArray.mk #[0, 0, 0, 0, 0, 0, 0, 0, 0, 0, 0, 0, 0, 0, 0, 0]))))]) (vs := [N64 (1), .agg #[Str (Wo.opn (([97]))), Str (Xm.root (([97])) (1)), I ((1 : Nat) : Int)], Str ([0, 0, 0, 0, 0, 0, 0, 0, 0, 0, 0, 0, 0, 0, 0, 0])]) (places := [(0, 1), (1, 3), (4, 1)]) (r := [N64 (1), Str (Wo.opn (([97]))), Str (Xm.root (([97])) (1)), I ((1 : Nat) : Int), Str ([0, 0, 0, 0, 0, 0, 0, 0, 0, 0, 0, 0, 0, 0, 0, 0])]) rfl rfl rfl Tryz.underlying34 Tryz.zeroValue34 (fun _ => by kernel_rfl) rfl) rfl rfl rfl ?_
  refine J.e (op_alloc (l := [.int .u64 0, Str [], Str [], I 0, Str []]) rfl Tryz.zeroValue34 rfl) rfl rfl rfl ?_
  intro g3 _
  change J _ _ _ [F, m10, blk g3 [.int .u64 0, Str [], Str [], I 0, Str []] 34] _
  refine J.s (op_storeAll (i := 2) (l := [.int .u64 0, Str [], Str [], I 0, Str []]) (vs := [N64 (1), Str (Wo.opn (([97]))), Str (Xm.root (([97])) (1)), I ((1 : Nat) : Int), Str ([0, 0, 0, 0, 0, 0, 0, 0, 0, 0, 0, 0, 0, 0, 0, 0])]) rfl rfl rfl rfl rfl Tryz.sizeOf34 rfl rfl) rfl rfl (fun _ _ => ?_)
  change J _ _ _ [F, m10, blk g3 [N64 (1), Str (Wo.opn (([97]))), Str (Xm.root (([97])) (1)), I ((1 : Nat) : Int), Str ([0, 0, 0, 0, 0, 0, 0, 0, 0, 0, 0, 0, 0, 0, 0, 0])] 34] _
  refine J.nil ?_
  refine J.then_n (J.k hK3 ?_)
  refine J.keepE [(1, _), (2, _), (3, _)] ⟨rfl, rfl, rfl, trivial⟩ ?_
  refine J.seq (fun K4 hK4 => ?_)
  refine J.region ?_
  refine J.y (op_move rfl rfl) rfl rfl rfl ?_
  refine J.y (op_loadBA 2 rfl rfl rfl Tryz.isAgg34 Tryz.sizeOf34 rfl) rfl rfl rfl ?_
  refine J.e (op_call rfl rfl ent7 (Ct.use (new := fun x : (Option Addr × Nat × Hp) × (Option Addr × Nat × Hp) => [x.1.2.2, x.2.2.2]) (fun F' hF => psign_ct F' (hK.mono (hF F (by simp))) g10 [97] 1 (h10.mono (hF m10 (by simp))) (by decide) (by decide) 0 (by decide) [97, 108, 105, 99, 101] (by first | decide | omega) 1 (Wo.opn ([97])) (Xm.root ([97]) (1)) ((1 : Nat) : Int) [0, 0, 0, 0, 0, 0, 0, 0, 0, 0, 0, 0, 0, 0, 0, 0] hE1))) rfl rfl rfl ?_
  rintro ⟨⟨A19, c19, m19⟩, ⟨B19, d19, n19⟩⟩ ⟨h19, k19⟩
  change J _ ((19, .tuple #[.agg #[Str ([97, 108, 105, 99, 101]), N64 (1), Str ((Wo.opn ([97]))), Str ((Xm.root ([97]) (1))), I (((1 : Nat) : Int)), Str ([0, 0, 0, 0, 0, 0, 0, 0, 0, 0, 0, 0, 0, 0, 0, 0]), I ((0 : Nat) : Int), .slice A19 (sgC [97] 0 (pmsg [97, 108, 105, 99, 101] 1 (Wo.opn ([97])) (Xm.root ([97]) (1)) ((1 : Nat) : Int) [0, 0, 0, 0, 0, 0, 0, 0, 0, 0, 0, 0, 0, 0, 0, 0])).length c19, .slice B19 (sgP [97] 1 0).length d19], I ((0 : Nat) : Int)]) :: _) _ [F, m10, blk g3 [N64 (1), Str (Wo.opn (([97]))), Str (Xm.root (([97])) (1)), I ((1 : Nat) : Int), Str ([0, 0, 0, 0, 0, 0, 0, 0, 0, 0, 0, 0, 0, 0, 0, 0])] 34, m19, n19] _
  refine J.y (op_move rfl rfl) rfl rfl rfl ?_
  refine J.y (op_extract (v := .agg #[Str ([97, 108, 105, 99, 101]), N64 (1), Str ((Wo.opn ([97]))), Str ((Xm.root ([97]) (1))), I (((1 : Nat) : Int)), Str ([0, 0, 0, 0, 0, 0, 0, 0, 0, 0, 0, 0, 0, 0, 0, 0]), I ((0 : Nat) : Int), .slice A19 ((sgC [97] 0 (pmsg [97, 108, 105, 99, 101] 1 (Wo.opn ([97])) (Xm.root ([97]) (1)) ((1 : Nat) : Int) [0, 0, 0, 0, 0, 0, 0, 0, 0, 0, 0, 0, 0, 0, 0, 0])).length) c19, .slice B19 ((sgP [97] 1 0).length) d19]) rfl rfl rfl) rfl rfl rfl ?_
  refine J.y (op_extract (v := I ((0 : Nat) : Int)) rfl rfl rfl) rfl rfl rfl ?_
  refine J.e (op_alloc (l := [Str [], .int .u64 0, Str [], Str [], I 0, Str [], I 0, .slice none 0 0, .slice none 0 0]) rfl Tryz.zeroValue39 rfl) rfl rfl rfl ?_
  intro g4 _
  change J _ _ _ [F, m10, blk g3 [N64 (1), Str (Wo.opn (([97]))), Str (Xm.root (([97])) (1)), I ((1 : Nat) : Int), Str ([0, 0, 0, 0, 0, 0, 0, 0, 0, 0, 0, 0, 0, 0, 0, 0])] 34, m19, n19, blk g4 [Str [], .int .u64 0, Str [], Str [], I 0, Str [], I 0, .slice none 0 0, .slice none 0 0] 39] _
  refine J.s (op_storeAll (i := 5) (l := [Str [], .int .u64 0, Str [], Str [], I 0, Str [], I 0, .slice none 0 0, .slice none 0 0]) (vs := [Str ([97, 108, 105, 99, 101]), N64 (1), Str ((Wo.opn ([97]))), Str ((Xm.root ([97]) (1))), I (((1 : Nat) : Int)), Str ([0, 0, 0, 0, 0, 0, 0, 0, 0, 0, 0, 0, 0, 0, 0, 0]), I ((0 : Nat) : Int), .slice A19 ((sgC [97] 0 (pmsg [97, 108, 105, 99, 101] 1 (Wo.opn ([97])) (Xm.root ([97]) (1)) ((1 : Nat) : Int) [0, 0, 0, 0, 0, 0, 0, 0, 0, 0, 0, 0, 0, 0, 0, 0])).length) c19, .slice B19 ((sgP [97] 1 0).length) d19]) rfl rfl rfl rfl rfl Tryz.sizeOf39 rfl rfl) rfl rfl (fun _ _ => ?_)
  change J _ _ _ [F, m10, blk g3 [N64 (1), Str (Wo.opn (([97]))), Str (Xm.root (([97])) (1)), I ((1 : Nat) : Int), Str ([0, 0, 0, 0, 0, 0, 0, 0, 0, 0, 0, 0, 0, 0, 0, 0])] 34, m19, n19, blk g4 [Str ([97, 108, 105, 99, 101]), N64 (1), Str ((Wo.opn ([97]))), Str ((Xm.root ([97]) (1))), I (((1 : Nat) : Int)), Str ([0, 0, 0, 0, 0, 0, 0, 0, 0, 0, 0, 0, 0, 0, 0, 0]), I ((0 : Nat) : Int), .slice A19 ((sgC [97] 0 (pmsg [97, 108, 105, 99, 101] 1 (Wo.opn ([97])) (Xm.root ([97]) (1)) ((1 : Nat) : Int) [0, 0, 0, 0, 0, 0, 0, 0, 0, 0, 0, 0, 0, 0, 0, 0])).length) c19, .slice B19 ((sgP [97] 1 0).length) d19] 39] _
  refine J.y (op_assign rfl rfl) rfl rfl rfl ?_
  refine J.nil ?_
  refine J.then_n (J.k hK4 ?_)
  refine J.keepE [(1, _), (2, _), (3, _), (4, _), (5, _)] ⟨rfl, rfl, rfl, rfl, rfl, trivial⟩ ?_
  refine J.seq (fun K5 hK5 => ?_)
  refine J.draw [blk g3 [N64 (1), Str (Wo.opn (([97]))), Str (Xm.root (([97])) (1)), I ((1 : Nat) : Int), Str ([0, 0, 0, 0, 0, 0, 0, 0, 0, 0, 0, 0, 0, 0, 0, 0])] 34] [6] (.y 0 (.y 2 (.br (.e 1 (.br (.e 3 (.y 4 (.e 5 (.e 6 .nil)))) (.e 5 (.e 3 (.y 4 (.e 6 .nil)))))) (.e 5 (.e 1 (.e 3 (.y 4 (.e 6 .nil)))))))) Tryz.wide (by decide +kernel) (by simp) ?_
  refine J.dy rfl (op_move rfl rfl) rfl rfl rfl rfl ?_
  refine J.dy rfl (op_loadBA 0 rfl rfl rfl Tryz.isAgg34 Tryz.sizeOf34 rfl) rfl rfl rfl rfl ?_
  refine J.dbr ?_ ?_
  ·
    refine J.de rfl (op_call rfl rfl ent6 (Ct.use0 (fun F' hF => xpubK_ct F' g10 ([97]) 1 (h10.mono (hF m10 (by simp)))))) rfl rfl rfl (by simp) ?_
    intro g23 _
    refine J.dbr ?_ ?_
    ·
      refine J.de rfl (op_call rfl rfl ent12 (Ct.use0 (fun F' hF => evalue_ct F' (hK.mono (hF F (by simp))) 1 (Wo.opn (([97]))) (Xm.root (([97])) (1)) ((1 : Nat) : Int) ([0, 0, 0, 0, 0, 0, 0, 0, 0, 0, 0, 0, 0, 0, 0, 0]) (by first | assumption | omega) (by first | assumption | omega) (by first | assumption | omega) (by first | assumption | omega)))) rfl rfl rfl (by simp) ?_
      intro g25 _
      refine J.dy rfl (op_buildStruct (l := [(0, .const ((Value.int IntKind.u64 2))), (1, .tmp 23), (2, .tmp 25)]) (vs := [N64 (2), .agg #[Str (Wo.opn (([97]))), Str (Xm.root (([97])) (1)), I ((1 : Nat) : Int)], Str (enVal (1) ((Wo.opn (([97])))) ((Xm.root (([97])) (1))) (((1 : Nat) : Int)) (([0, 0, 0, 0, 0, 0, 0, 0, 0, 0, 0, 0, 0, 0, 0, 0])))]) (places := [(0, 1), (1, 3), (4, 1)]) (r := [N64 (2), Str (Wo.opn (([97]))), Str (Xm.root (([97])) (1)), I ((1 : Nat) : Int), Str (enVal (1) ((Wo.opn (([97])))) ((Xm.root (([97])) (1))) (((1 : Nat) : Int)) (([0, 0, 0, 0, 0, 0, 0, 0, 0, 0, 0, 0, 0, 0, 0, 0])))]) rfl rfl rfl Tryz.underlying34 Tryz.zeroValue34 (fun _ => by kernel_rfl) rfl) rfl rfl rfl rfl ?_
      refine J.de rfl (op_alloc (l := [.int .u64 0, Str [], Str [], I 0, Str []]) rfl Tryz.zeroValue34 rfl) rfl rfl rfl (by simp) ?_
      intro g6 _
      change J _ _ _ [F, m10, blk g3 [N64 (1), Str (Wo.opn (([97]))), Str (Xm.root (([97])) (1)), I ((1 : Nat) : Int), Str ([0, 0, 0, 0, 0, 0, 0, 0, 0, 0, 0, 0, 0, 0, 0, 0])] 34, m19, n19, blk g4 [Str ([97, 108, 105, 99, 101]), N64 (1), Str ((Wo.opn ([97]))), Str ((Xm.root ([97]) (1))), I (((1 : Nat) : Int)), Str ([0, 0, 0, 0, 0, 0, 0, 0, 0, 0, 0, 0, 0, 0, 0, 0]), I ((0 : Nat) : Int), .slice A19 ((sgC [97] 0 (pmsg [97, 108, 105, 99, 101] 1 (Wo.opn ([97])) (Xm.root ([97]) (1)) ((1 : Nat) : Int) [0, 0, 0, 0, 0, 0, 0, 0, 0, 0, 0, 0, 0, 0, 0, 0])).length) c19, .slice B19 ((sgP [97] 1 0).length) d19] 39, blk g6 [.int .u64 0, Str [], Str [], I 0, Str []] 34] _
      refine J.ds rfl (op_storeAll (i := 6) (l := [.int .u64 0, Str [], Str [], I 0, Str []]) (vs := [N64 (2), Str (Wo.opn (([97]))), Str (Xm.root (([97])) (1)), I ((1 : Nat) : Int), Str (enVal (1) ((Wo.opn (([97])))) ((Xm.root (([97])) (1))) (((1 : Nat) : Int)) (([0, 0, 0, 0, 0, 0, 0, 0, 0, 0, 0, 0, 0, 0, 0, 0])))]) rfl rfl rfl rfl rfl Tryz.sizeOf34 rfl rfl) rfl rfl rfl (fun _ _ => ?_)
      change J _ _ _ [F, m10, blk g3 [N64 (1), Str (Wo.opn (([97]))), Str (Xm.root (([97])) (1)), I ((1 : Nat) : Int), Str ([0, 0, 0, 0, 0, 0, 0, 0, 0, 0, 0, 0, 0, 0, 0, 0])] 34, m19, n19, blk g4 [Str ([97, 108, 105, 99, 101]), N64 (1), Str ((Wo.opn ([97]))), Str ((Xm.root ([97]) (1))), I (((1 : Nat) : Int)), Str ([0, 0, 0, 0, 0, 0, 0, 0, 0, 0, 0, 0, 0, 0, 0, 0]), I ((0 : Nat) : Int), .slice A19 ((sgC [97] 0 (pmsg [97, 108, 105, 99, 101] 1 (Wo.opn ([97])) (Xm.root ([97]) (1)) ((1 : Nat) : Int) [0, 0, 0, 0, 0, 0, 0, 0, 0, 0, 0, 0, 0, 0, 0, 0])).length) c19, .slice B19 ((sgP [97] 1 0).length) d19] 39, blk g6 [N64 (2), Str (Wo.opn (([97]))), Str (Xm.root (([97])) (1)), I ((1 : Nat) : Int), Str (enVal (1) ((Wo.opn (([97])))) ((Xm.root (([97])) (1))) (((1 : Nat) : Int)) (([0, 0, 0, 0, 0, 0, 0, 0, 0, 0, 0, 0, 0, 0, 0, 0])))] 34] _
      refine J.dnil ?_
      refine J.then_n (J.k hK5 ?_)
      refine J.keepE [(1, _), (2, _), (3, _), (4, _), (5, _), (6, _)] ⟨rfl, rfl, rfl, rfl, rfl, rfl, trivial⟩ ?_
      refine J.seq (fun K6 hK6 => ?_)
      refine J.region ?_
      refine J.y (op_move rfl rfl) rfl rfl rfl ?_
      refine J.y (op_loadBA 6 rfl rfl rfl Tryz.isAgg34 Tryz.sizeOf34 rfl) rfl rfl rfl ?_
      refine J.e (op_call rfl rfl ent7 (Ct.use (new := fun x : (Option Addr × Nat × Hp) × (Option Addr × Nat × Hp) => [x.1.2.2, x.2.2.2]) (fun F' hF => psign_ct F' (hK.mono (hF F (by simp))) g10 [97] 1 (h10.mono (hF m10 (by simp))) (by decide) (by decide) 1 (by decide) [97, 108, 105, 99, 101] (by first | decide | omega) 2 (Wo.opn ([97])) (Xm.root ([97]) (1)) ((1 : Nat) : Int) (enVal 1 (Wo.opn ([97])) (Xm.root ([97]) (1)) ((1 : Nat) : Int) [0, 0, 0, 0, 0, 0, 0, 0, 0, 0, 0, 0, 0, 0, 0, 0]) hE2))) rfl rfl rfl ?_
      rintro ⟨⟨A30, c30, m30⟩, ⟨B30, d30, n30⟩⟩ ⟨h30, k30⟩
      change J _ ((30, .tuple #[.agg #[Str ([97, 108, 105, 99, 101]), N64 (2), Str ((Wo.opn ([97]))), Str ((Xm.root ([97]) (1))), I (((1 : Nat) : Int)), Str ((enVal 1 (Wo.opn ([97])) (Xm.root ([97]) (1)) ((1 : Nat) : Int) [0, 0, 0, 0, 0, 0, 0, 0, 0, 0, 0, 0, 0, 0, 0, 0])), I ((1 : Nat) : Int), .slice A30 (sgC [97] 1 (pmsg [97, 108, 105, 99, 101] 2 (Wo.opn ([97])) (Xm.root ([97]) (1)) ((1 : Nat) : Int) (enVal 1 (Wo.opn ([97])) (Xm.root ([97]) (1)) ((1 : Nat) : Int) [0, 0, 0, 0, 0, 0, 0, 0, 0, 0, 0, 0, 0, 0, 0, 0]))).length c30, .slice B30 (sgP [97] 1 1).length d30], I ((0 : Nat) : Int)]) :: _) _ [F, m10, blk g3 [N64 (1), Str (Wo.opn (([97]))), Str (Xm.root (([97])) (1)), I ((1 : Nat) : Int), Str ([0, 0, 0, 0, 0, 0, 0, 0, 0, 0, 0, 0, 0, 0, 0, 0])] 34, m19, n19, blk g4 [Str ([97, 108, 105, 99, 101]), N64 (1), Str ((Wo.opn ([97]))), Str ((Xm.root ([97]) (1))), I (((1 : Nat) : Int)), Str ([0, 0, 0, 0, 0, 0, 0, 0, 0, 0, 0, 0, 0, 0, 0, 0]), I ((0 : Nat) : Int), .slice A19 ((sgC [97] 0 (pmsg [97, 108, 105, 99, 101] 1 (Wo.opn ([97])) (Xm.root ([97]) (1)) ((1 : Nat) : Int) [0, 0, 0, 0, 0, 0, 0, 0, 0, 0, 0, 0, 0, 0, 0, 0])).length) c19, .slice B19 ((sgP [97] 1 0).length) d19] 39, blk g6 [N64 (2), Str (Wo.opn (([97]))), Str (Xm.root (([97])) (1)), I ((1 : Nat) : Int), Str (enVal (1) ((Wo.opn (([97])))) ((Xm.root (([97])) (1))) (((1 : Nat) : Int)) (([0, 0, 0, 0, 0, 0, 0, 0, 0, 0, 0, 0, 0, 0, 0, 0])))] 34, m30, n30] _
      refine J.y (op_move rfl rfl) rfl rfl rfl ?_
      refine J.y (op_extract (v := .agg #[Str ([97, 108, 105, 99, 101]), N64 (2), Str ((Wo.opn ([97]))), Str ((Xm.root ([97]) (1))), I (((1 : Nat) : Int)), Str ((enVal 1 (Wo.opn ([97])) (Xm.root ([97]) (1)) ((1 : Nat) : Int) [0, 0, 0, 0, 0, 0, 0, 0, 0, 0, 0, 0, 0, 0, 0, 0])), I ((1 : Nat) : Int), .slice A30 ((sgC [97] 1 (pmsg [97, 108, 105, 99, 101] 2 (Wo.opn ([97])) (Xm.root ([97]) (1)) ((1 : Nat) : Int) (enVal 1 (Wo.opn ([97])) (Xm.root ([97]) (1)) ((1 : Nat) : Int) [0, 0, 0, 0, 0, 0, 0, 0, 0, 0, 0, 0, 0, 0, 0, 0]))).length) c30, .slice B30 ((sgP [97] 1 1).length) d30]) rfl rfl rfl) rfl rfl rfl ?_
      refine J.y (op_extract (v := I ((0 : Nat) : Int)) rfl rfl rfl) rfl rfl rfl ?_
      refine J.e (op_alloc (l := [Str [], .int .u64 0, Str [], Str [], I 0, Str [], I 0, .slice none 0 0, .slice none 0 0]) rfl Tryz.zeroValue39 rfl) rfl rfl rfl ?_
      intro g7 _
      change J _ _ _ [F, m10, blk g3 [N64 (1), Str (Wo.opn (([97]))), Str (Xm.root (([97])) (1)), I ((1 : Nat) : Int), Str ([0, 0, 0, 0, 0, 0, 0, 0, 0, 0, 0, 0, 0, 0, 0, 0])] 34, m19, n19, blk g4 [Str ([97, 108, 105, 99, 101]), N64 (1), Str ((Wo.opn ([97]))), Str ((Xm.root ([97]) (1))), I (((1 : Nat) : Int)), Str ([0, 0, 0, 0, 0, 0, 0, 0, 0, 0, 0, 0, 0, 0, 0, 0]), I ((0 : Nat) : Int), .slice A19 ((sgC [97] 0 (pmsg [97, 108, 105, 99, 101] 1 (Wo.opn ([97])) (Xm.root ([97]) (1)) ((1 : Nat) : Int) [0, 0, 0, 0, 0, 0, 0, 0, 0, 0, 0, 0, 0, 0, 0, 0])).length) c19, .slice B19 ((sgP [97] 1 0).length) d19] 39, blk g6 [N64 (2), Str (Wo.opn (([97]))), Str (Xm.root (([97])) (1)), I ((1 : Nat) : Int), Str (enVal (1) ((Wo.opn (([97])))) ((Xm.root (([97])) (1))) (((1 : Nat) : Int)) (([0, 0, 0, 0, 0, 0, 0, 0, 0, 0, 0, 0, 0, 0, 0, 0])))] 34, m30, n30, blk g7 [Str [], .int .u64 0, Str [], Str [], I 0, Str [], I 0, .slice none 0 0, .slice none 0 0] 39] _
      refine J.s (op_storeAll (i := 9) (l := [Str [], .int .u64 0, Str [], Str [], I 0, Str [], I 0, .slice none 0 0, .slice none 0 0]) (vs := [Str ([97, 108, 105, 99, 101]), N64 (2), Str ((Wo.opn ([97]))), Str ((Xm.root ([97]) (1))), I (((1 : Nat) : Int)), Str ((enVal 1 (Wo.opn ([97])) (Xm.root ([97]) (1)) ((1 : Nat) : Int) [0, 0, 0, 0, 0, 0, 0, 0, 0, 0, 0, 0, 0, 0, 0, 0])), I ((1 : Nat) : Int), .slice A30 ((sgC [97] 1 (pmsg [97, 108, 105, 99, 101] 2 (Wo.opn ([97])) (Xm.root ([97]) (1)) ((1 : Nat) : Int) (enVal 1 (Wo.opn ([97])) (Xm.root ([97]) (1)) ((1 : Nat) : Int) [0, 0, 0, 0, 0, 0, 0, 0, 0, 0, 0, 0, 0, 0, 0, 0]))).length) c30, .slice B30 ((sgP [97] 1 1).length) d30]) rfl rfl rfl rfl rfl Tryz.sizeOf39 rfl rfl) rfl rfl (fun _ _ => ?_)
      change J _ _ _ [F, m10, blk g3 [N64 (1), Str (Wo.opn (([97]))), Str (Xm.root (([97])) (1)), I ((1 : Nat) : Int), Str ([0, 0, 0, 0, 0, 0, 0, 0, 0, 0, 0, 0, 0, 0, 0, 0])] 34, m19, n19, blk g4 [Str ([97, 108, 105, 99, 101]), N64 (1), Str ((Wo.opn ([97]))), Str ((Xm.root ([97]) (1))), I (((1 : Nat) : Int)), Str ([0, 0, 0, 0, 0, 0, 0, 0, 0, 0, 0, 0, 0, 0, 0, 0]), I ((0 : Nat) : Int), .slice A19 ((sgC [97] 0 (pmsg [97, 108, 105, 99, 101] 1 (Wo.opn ([97])) (Xm.root ([97]) (1)) ((1 : Nat) : Int) [0, 0, 0, 0, 0, 0, 0, 0, 0, 0, 0, 0, 0, 0, 0, 0])).length) c19, .slice B19 ((sgP [97] 1 0).length) d19] 39, blk g6 [N64 (2), Str (Wo.opn (([97]))), Str (Xm.root (([97])) (1)), I ((1 : Nat) : Int), Str (enVal (1) ((Wo.opn (([97])))) ((Xm.root (([97])) (1))) (((1 : Nat) : Int)) (([0, 0, 0, 0, 0, 0, 0, 0, 0, 0, 0, 0, 0, 0, 0, 0])))] 34, m30, n30, blk g7 [Str ([97, 108, 105, 99, 101]), N64 (2), Str ((Wo.opn ([97]))), Str ((Xm.root ([97]) (1))), I (((1 : Nat) : Int)), Str ((enVal 1 (Wo.opn ([97])) (Xm.root ([97]) (1)) ((1 : Nat) : Int) [0, 0, 0, 0, 0, 0, 0, 0, 0, 0, 0, 0, 0, 0, 0, 0])), I ((1 : Nat) : Int), .slice A30 ((sgC [97] 1 (pmsg [97, 108, 105, 99, 101] 2 (Wo.opn ([97])) (Xm.root ([97]) (1)) ((1 : Nat) : Int) (enVal 1 (Wo.opn ([97])) (Xm.root ([97]) (1)) ((1 : Nat) : Int) [0, 0, 0, 0, 0, 0, 0, 0, 0, 0, 0, 0, 0, 0, 0, 0]))).length) c30, .slice B30 ((sgP [97] 1 1).length) d30] 39] _
      refine J.y (op_assign rfl rfl) rfl rfl rfl ?_
      refine J.nil ?_
      refine J.then_n (J.k hK6 ?_)
      refine J.keepE [(2, _), (3, _), (4, _), (5, _), (7, _), (8, _)] ⟨rfl, rfl, rfl, rfl, rfl, rfl, trivial⟩ ?_
      refine J.seq (fun K7 hK7 => ?_)
      refine J.region ?_
      refine J.y (op_move rfl rfl) rfl rfl rfl ?_
      refine J.y ((op_eql rfl rfl rfl).as (v' := .bool true) (congrArg Value.bool (decide_eq_true (by decide)))) rfl rfl rfl ?_
      refine J.y (op_move rfl rfl) rfl rfl rfl ?_
      refine J.yg (Wan.is rfl rfl rfl rfl rfl) (op_move rfl rfl) rfl rfl ?_
      refine J.yg (Wan.is rfl rfl rfl rfl rfl) ((op_eql rfl rfl rfl).as (v' := .bool true) (congrArg Value.bool (decide_eq_true (by decide)))) rfl rfl ?_
      refine J.y (op_pickT rfl rfl rfl) rfl rfl rfl ?_
      refine J.y (op_move rfl rfl) rfl rfl rfl ?_
      refine J.yg (Wan.is rfl rfl rfl rfl rfl) (op_move rfl rfl) rfl rfl ?_
      refine J.yg (Wan.is rfl rfl rfl rfl rfl) ((op_eql rfl rfl rfl).as (v' := .bool true) (congrArg Value.bool (decide_eq_true (by decide)))) rfl rfl ?_
      refine J.y (op_pickT rfl rfl rfl) rfl rfl rfl ?_
      refine J.y (op_move rfl rfl) rfl rfl rfl ?_
      refine J.yg (Wan.is rfl rfl rfl rfl rfl) (op_loadBA 5 rfl rfl rfl Tryz.isAgg39 Tryz.sizeOf39 rfl) rfl rfl ?_
      refine J.yg (Wan.is rfl rfl rfl rfl rfl) (op_buildStruct (l := []) (vs := []) (places := [(0, 1), (1, 3), (4, 1)]) (r := [.int .u64 0, Str [], Str [], I 0, Str []]) rfl rfl rfl Tryz.underlying34 Tryz.zeroValue34 (fun _ => by kernel_rfl) rfl) rfl rfl ?_
      refine J.eg (Wan.is rfl rfl rfl rfl rfl) (op_call rfl rfl ent13 (Ct.use0 (fun F' hF => judge_new F' (hK.mono (hF F (by simp))) (hA.mono (hF F (by simp))) (hT.mono (hF F (by simp))) [97] 1 (by decide) 0 (by decide) [97, 108, 105, 99, 101] (by decide) nAlice 1 [0, 0, 0, 0, 0, 0, 0, 0, 0, 0, 0, 0, 0, 0, 0, 0] hE1 A19 _ c19 (h19.sl.mono (hF m19 (by simp))) B19 _ d19 (k19.sl.mono (hF n19 (by simp))) (En.hist1 _ rfl rfl)))) rfl rfl ?_
      intro g46 _
      refine J.yg (Wan.is rfl rfl rfl rfl rfl) ((op_eql rfl rfl rfl).as (v' := .bool true) (congrArg Value.bool (decide_eq_true (by decide)))) rfl rfl ?_
      refine J.y (op_pickT rfl rfl rfl) rfl rfl rfl ?_
      refine J.y (op_move rfl rfl) rfl rfl rfl ?_
      refine J.yg (Wan.is rfl rfl rfl rfl rfl) (op_loadBA 9 rfl rfl rfl Tryz.isAgg39 Tryz.sizeOf39 rfl) rfl rfl ?_
      refine J.yg (Wan.is rfl rfl rfl rfl rfl) (op_loadBA 2 rfl rfl rfl Tryz.isAgg34 Tryz.sizeOf34 rfl) rfl rfl ?_
      refine J.eg (Wan.is rfl rfl rfl rfl rfl) (op_call rfl rfl ent13 (Ct.use0 (fun F' hF => judge_next F' (hK.mono (hF F (by simp))) (hA.mono (hF F (by simp))) (hT.mono (hF F (by simp))) [97] 1 (by decide) 1 (by decide) [97, 108, 105, 99, 101] (by decide) nAlice 2 (enVal 1 (Wo.opn ([97])) (Xm.root ([97]) (1)) ((1 : Nat) : Int) [0, 0, 0, 0, 0, 0, 0, 0, 0, 0, 0, 0, 0, 0, 0, 0]) hE2 A30 _ c30 (h30.sl.mono (hF m30 (by simp))) B30 _ d30 (k30.sl.mono (hF n30 (by simp))) 1 [0, 0, 0, 0, 0, 0, 0, 0, 0, 0, 0, 0, 0, 0, 0, 0] hE1 (nextK (by decide) rfl hv1 rfl)))) rfl rfl ?_
      intro g52 _
      refine J.yg (Wan.is rfl rfl rfl rfl rfl) ((op_eql rfl rfl rfl).as (v' := .bool true) (congrArg Value.bool (decide_eq_true (by decide)))) rfl rfl ?_
      refine J.y (op_pickT rfl rfl rfl) rfl rfl rfl ?_
      refine J.y (op_move rfl rfl) rfl rfl rfl ?_
      refine J.yg (Wan.is rfl rfl rfl rfl rfl) (op_loadBA 9 rfl rfl rfl Tryz.isAgg39 Tryz.sizeOf39 rfl) rfl rfl ?_
      refine J.yg (Wan.is rfl rfl rfl rfl rfl) (op_buildStruct (l := []) (vs := []) (places := [(0, 1), (1, 3), (4, 1)]) (r := [.int .u64 0, Str [], Str [], I 0, Str []]) rfl rfl rfl Tryz.underlying34 Tryz.zeroValue34 (fun _ => by kernel_rfl) rfl) rfl rfl ?_
      refine J.eg (Wan.is rfl rfl rfl rfl rfl) (op_call rfl rfl ent13 (Ct.use0 (fun F' hF => judge_newE F' (hK.mono (hF F (by simp))) (hA.mono (hF F (by simp))) (hT.mono (hF F (by simp))) [97] 1 (by decide) 1 (by decide) [97, 108, 105, 99, 101] (by decide) nAlice 2 (enVal 1 (Wo.opn ([97])) (Xm.root ([97]) (1)) ((1 : Nat) : Int) [0, 0, 0, 0, 0, 0, 0, 0, 0, 0, 0, 0, 0, 0, 0, 0]) hE2 A30 _ c30 (h30.sl.mono (hF m30 (by simp))) B30 _ d30 (k30.sl.mono (hF n30 (by simp))) (En.hist13 _ (by decide))))) rfl rfl ?_
      intro g58 _
      refine J.yg (Wan.is rfl rfl rfl rfl rfl) ((op_eql rfl rfl rfl).as (v' := .bool true) (congrArg Value.bool (decide_eq_true (by decide)))) rfl rfl ?_
      refine J.y (op_pickT rfl rfl rfl) rfl rfl rfl ?_
      refine J.y (op_assign rfl rfl) rfl rfl rfl ?_
      refine J.nil ?_
      refine J.then_n (J.k hK7 ?_)
      refine J.keepE [(0, _)] ⟨rfl, trivial⟩ ?_
      refine J.ret ?_
      exact J.done hw0 (fun _ _ h => h) (res1 rfl rfl) (retOk () rfl trivial [0] rfl (by decide))
    ·
      refine J.de rfl (op_alloc (l := [.int .u64 0, Str [], Str [], I 0, Str []]) rfl Tryz.zeroValue34 rfl) rfl rfl rfl (by simp) ?_
      intro g6 _
      change J _ _ _ [F, m10, blk g3 [N64 (1), Str (Wo.opn (([97]))), Str (Xm.root (([97])) (1)), I ((1 : Nat) : Int), Str ([0, 0, 0, 0, 0, 0, 0, 0, 0, 0, 0, 0, 0, 0, 0, 0])] 34, m19, n19, blk g4 [Str ([97, 108, 105, 99, 101]), N64 (1), Str ((Wo.opn ([97]))), Str ((Xm.root ([97]) (1))), I (((1 : Nat) : Int)), Str ([0, 0, 0, 0, 0, 0, 0, 0, 0, 0, 0, 0, 0, 0, 0, 0]), I ((0 : Nat) : Int), .slice A19 ((sgC [97] 0 (pmsg [97, 108, 105, 99, 101] 1 (Wo.opn ([97])) (Xm.root ([97]) (1)) ((1 : Nat) : Int) [0, 0, 0, 0, 0, 0, 0, 0, 0, 0, 0, 0, 0, 0, 0, 0])).length) c19, .slice B19 ((sgP [97] 1 0).length) d19] 39, blk g6 [.int .u64 0, Str [], Str [], I 0, Str []] 34] _
      refine J.de rfl (op_call rfl rfl ent12 (Ct.use0 (fun F' hF => evalue_ct F' (hK.mono (hF F (by simp))) 1 (Wo.opn (([97]))) (Xm.root (([97])) (1)) ((1 : Nat) : Int) ([0, 0, 0, 0, 0, 0, 0, 0, 0, 0, 0, 0, 0, 0, 0, 0]) (by first | assumption | omega) (by first | assumption | omega) (by first | assumption | omega) (by first | assumption | omega)))) rfl rfl rfl (by simp) ?_
      intro g25 _
      refine J.dy rfl (op_buildStruct (l := [(0, .const ((Value.int IntKind.u64 2))), (1, .tmp 23), (2, .tmp 25)]) (vs := [N64 (2), .agg #[Str (Wo.opn (([97]))), Str (Xm.root (([97])) (1)), I ((1 : Nat) : Int)], Str (enVal (1) ((Wo.opn (([97])))) ((Xm.root (([97])) (1))) (((1 : Nat) : Int)) (([0, 0, 0, 0, 0, 0, 0, 0, 0, 0, 0, 0, 0, 0, 0, 0])))]) (places := [(0, 1), (1, 3), (4, 1)]) (r := [N64 (2), Str (Wo.opn (([97]))), Str (Xm.root (([97])) (1)), I ((1 : Nat) : Int), Str (enVal (1) ((Wo.opn (([97])))) ((Xm.root (([97])) (1))) (((1 : Nat) : Int)) (([0, 0, 0, 0, 0, 0, 0, 0, 0, 0, 0, 0, 0, 0, 0, 0])))]) rfl rfl rfl Tryz.underlying34 Tryz.zeroValue34 (fun _ => by kernel_rfl) rfl) rfl rfl rfl rfl ?_
      refine J.ds rfl (op_storeAll (i := 6) (l := [.int .u64 0, Str [], Str [], I 0, Str []]) (vs := [N64 (2), Str (Wo.opn (([97]))), Str (Xm.root (([97])) (1)), I ((1 : Nat) : Int), Str (enVal (1) ((Wo.opn (([97])))) ((Xm.root (([97])) (1))) (((1 : Nat) : Int)) (([0, 0, 0, 0, 0, 0, 0, 0, 0, 0, 0, 0, 0, 0, 0, 0])))]) rfl rfl rfl rfl rfl Tryz.sizeOf34 rfl rfl) rfl rfl rfl (fun _ _ => ?_)
      change J _ _ _ [F, m10, blk g3 [N64 (1), Str (Wo.opn (([97]))), Str (Xm.root (([97])) (1)), I ((1 : Nat) : Int), Str ([0, 0, 0, 0, 0, 0, 0, 0, 0, 0, 0, 0, 0, 0, 0, 0])] 34, m19, n19, blk g4 [Str ([97, 108, 105, 99, 101]), N64 (1), Str ((Wo.opn ([97]))), Str ((Xm.root ([97]) (1))), I (((1 : Nat) : Int)), Str ([0, 0, 0, 0, 0, 0, 0, 0, 0, 0, 0, 0, 0, 0, 0, 0]), I ((0 : Nat) : Int), .slice A19 ((sgC [97] 0 (pmsg [97, 108, 105, 99, 101] 1 (Wo.opn ([97])) (Xm.root ([97]) (1)) ((1 : Nat) : Int) [0, 0, 0, 0, 0, 0, 0, 0, 0, 0, 0, 0, 0, 0, 0, 0])).length) c19, .slice B19 ((sgP [97] 1 0).length) d19] 39, blk g6 [N64 (2), Str (Wo.opn (([97]))), Str (Xm.root (([97])) (1)), I ((1 : Nat) : Int), Str (enVal (1) ((Wo.opn (([97])))) ((Xm.root (([97])) (1))) (((1 : Nat) : Int)) (([0, 0, 0, 0, 0, 0, 0, 0, 0, 0, 0, 0, 0, 0, 0, 0])))] 34] _
      refine J.dnil ?_
      refine J.then_n (J.k hK5 ?_)
      refine J.keepE [(1, _), (2, _), (3, _), (4, _), (5, _), (6, _)] ⟨rfl, rfl, rfl, rfl, rfl, rfl, trivial⟩ ?_
      refine J.seq (fun K8 hK8 => ?_)
      refine J.region ?_
      refine J.y (op_move rfl rfl) rfl rfl rfl ?_
      refine J.y (op_loadBA 6 rfl rfl rfl Tryz.isAgg34 Tryz.sizeOf34 rfl) rfl rfl rfl ?_
      refine J.e (op_call rfl rfl ent7 (Ct.use (new := fun x : (Option Addr × Nat × Hp) × (Option Addr × Nat × Hp) => [x.1.2.2, x.2.2.2]) (fun F' hF => psign_ct F' (hK.mono (hF F (by simp))) g10 [97] 1 (h10.mono (hF m10 (by simp))) (by decide) (by decide) 1 (by decide) [97, 108, 105, 99, 101] (by first | decide | omega) 2 (Wo.opn ([97])) (Xm.root ([97]) (1)) ((1 : Nat) : Int) (enVal 1 (Wo.opn ([97])) (Xm.root ([97]) (1)) ((1 : Nat) : Int) [0, 0, 0, 0, 0, 0, 0, 0, 0, 0, 0, 0, 0, 0, 0, 0]) hE2))) rfl rfl rfl ?_
      rintro ⟨⟨A30, c30, m30⟩, ⟨B30, d30, n30⟩⟩ ⟨h30, k30⟩
      change J _ ((30, .tuple #[.agg #[Str ([97, 108, 105, 99, 101]), N64 (2), Str ((Wo.opn ([97]))), Str ((Xm.root ([97]) (1))), I (((1 : Nat) : Int)), Str ((enVal 1 (Wo.opn ([97])) (Xm.root ([97]) (1)) ((1 : Nat) : Int) [0, 0, 0, 0, 0, 0, 0, 0, 0, 0, 0, 0, 0, 0, 0, 0])), I ((1 : Nat) : Int), .slice A30 (sgC [97] 1 (pmsg [97, 108, 105, 99, 101] 2 (Wo.opn ([97])) (Xm.root ([97]) (1)) ((1 : Nat) : Int) (enVal 1 (Wo.opn ([97])) (Xm.root ([97]) (1)) ((1 : Nat) : Int) [0, 0, 0, 0, 0, 0, 0, 0, 0, 0, 0, 0, 0, 0, 0, 0]))).length c30, .slice B30 (sgP [97] 1 1).length d30], I ((0 : Nat) : Int)]) :: _) _ [F, m10, blk g3 [N64 (1), Str (Wo.opn (([97]))), Str (Xm.root (([97])) (1)), I ((1 : Nat) : Int), Str ([0, 0, 0, 0, 0, 0, 0, 0, 0, 0, 0, 0, 0, 0, 0, 0])] 34, m19, n19, blk g4 [Str ([97, 108, 105, 99, 101]), N64 (1), Str ((Wo.opn ([97]))), Str ((Xm.root ([97]) (1))), I (((1 : Nat) : Int)), Str ([0, 0, 0, 0, 0, 0, 0, 0, 0, 0, 0, 0, 0, 0, 0, 0]), I ((0 : Nat) : Int), .slice A19 ((sgC [97] 0 (pmsg [97, 108, 105, 99, 101] 1 (Wo.opn ([97])) (Xm.root ([97]) (1)) ((1 : Nat) : Int) [0, 0, 0, 0, 0, 0, 0, 0, 0, 0, 0, 0, 0, 0, 0, 0])).length) c19, .slice B19 ((sgP [97] 1 0).length) d19] 39, blk g6 [N64 (2), Str (Wo.opn (([97]))), Str (Xm.root (([97])) (1)), I ((1 : Nat) : Int), Str (enVal (1) ((Wo.opn (([97])))) ((Xm.root (([97])) (1))) (((1 : Nat) : Int)) (([0, 0, 0, 0, 0, 0, 0, 0, 0, 0, 0, 0, 0, 0, 0, 0])))] 34, m30, n30] _
      refine J.y (op_move rfl rfl) rfl rfl rfl ?_
      refine J.y (op_extract (v := .agg #[Str ([97, 108, 105, 99, 101]), N64 (2), Str ((Wo.opn ([97]))), Str ((Xm.root ([97]) (1))), I (((1 : Nat) : Int)), Str ((enVal 1 (Wo.opn ([97])) (Xm.root ([97]) (1)) ((1 : Nat) : Int) [0, 0, 0, 0, 0, 0, 0, 0, 0, 0, 0, 0, 0, 0, 0, 0])), I ((1 : Nat) : Int), .slice A30 ((sgC [97] 1 (pmsg [97, 108, 105, 99, 101] 2 (Wo.opn ([97])) (Xm.root ([97]) (1)) ((1 : Nat) : Int) (enVal 1 (Wo.opn ([97])) (Xm.root ([97]) (1)) ((1 : Nat) : Int) [0, 0, 0, 0, 0, 0, 0, 0, 0, 0, 0, 0, 0, 0, 0, 0]))).length) c30, .slice B30 ((sgP [97] 1 1).length) d30]) rfl rfl rfl) rfl rfl rfl ?_
      refine J.y (op_extract (v := I ((0 : Nat) : Int)) rfl rfl rfl) rfl rfl rfl ?_
      refine J.e (op_alloc (l := [Str [], .int .u64 0, Str [], Str [], I 0, Str [], I 0, .slice none 0 0, .slice none 0 0]) rfl Tryz.zeroValue39 rfl) rfl rfl rfl ?_
      intro g7 _
      change J _ _ _ [F, m10, blk g3 [N64 (1), Str (Wo.opn (([97]))), Str (Xm.root (([97])) (1)), I ((1 : Nat) : Int), Str ([0, 0, 0, 0, 0, 0, 0, 0, 0, 0, 0, 0, 0, 0, 0, 0])] 34, m19, n19, blk g4 [Str ([97, 108, 105, 99, 101]), N64 (1), Str ((Wo.opn ([97]))), Str ((Xm.root ([97]) (1))), I (((1 : Nat) : Int)), Str ([0, 0, 0, 0, 0, 0, 0, 0, 0, 0, 0, 0, 0, 0, 0, 0]), I ((0 : Nat) : Int), .slice A19 ((sgC [97] 0 (pmsg [97, 108, 105, 99, 101] 1 (Wo.opn ([97])) (Xm.root ([97]) (1)) ((1 : Nat) : Int) [0, 0, 0, 0, 0, 0, 0, 0, 0, 0, 0, 0, 0, 0, 0, 0])).length) c19, .slice B19 ((sgP [97] 1 0).length) d19] 39, blk g6 [N64 (2), Str (Wo.opn (([97]))), Str (Xm.root (([97])) (1)), I ((1 : Nat) : Int), Str (enVal (1) ((Wo.opn (([97])))) ((Xm.root (([97])) (1))) (((1 : Nat) : Int)) (([0, 0, 0, 0, 0, 0, 0, 0, 0, 0, 0, 0, 0, 0, 0, 0])))] 34, m30, n30, blk g7 [Str [], .int .u64 0, Str [], Str [], I 0, Str [], I 0, .slice none 0 0, .slice none 0 0] 39] _
      refine J.s (op_storeAll (i := 9) (l := [Str [], .int .u64 0, Str [], Str [], I 0, Str [], I 0, .slice none 0 0, .slice none 0 0]) (vs := [Str ([97, 108, 105, 99, 101]), N64 (2), Str ((Wo.opn ([97]))), Str ((Xm.root ([97]) (1))), I (((1 : Nat) : Int)), Str ((enVal 1 (Wo.opn ([97])) (Xm.root ([97]) (1)) ((1 : Nat) : Int) [0, 0, 0, 0, 0, 0, 0, 0, 0, 0, 0, 0, 0, 0, 0, 0])), I ((1 : Nat) : Int), .slice A30 ((sgC [97] 1 (pmsg [97, 108, 105, 99, 101] 2 (Wo.opn ([97])) (Xm.root ([97]) (1)) ((1 : Nat) : Int) (enVal 1 (Wo.opn ([97])) (Xm.root ([97]) (1)) ((1 : Nat) : Int) [0, 0, 0, 0, 0, 0, 0, 0, 0, 0, 0, 0, 0, 0, 0, 0]))).length) c30, .slice B30 ((sgP [97] 1 1).length) d30]) rfl rfl rfl rfl rfl Tryz.sizeOf39 rfl rfl) rfl rfl (fun _ _ => ?_)
      change J _ _ _ [F, m10, blk g3 [N64 (1), Str (Wo.opn (([97]))), Str (Xm.root (([97])) (1)), I ((1 : Nat) : Int), Str ([0, 0, 0, 0, 0, 0, 0, 0, 0, 0, 0, 0, 0, 0, 0, 0])] 34, m19, n19, blk g4 [Str ([97, 108, 105, 99, 101]), N64 (1), Str ((Wo.opn ([97]))), Str ((Xm.root ([97]) (1))), I (((1 : Nat) : Int)), Str ([0, 0, 0, 0, 0, 0, 0, 0, 0, 0, 0, 0, 0, 0, 0, 0]), I ((0 : Nat) : Int), .slice A19 ((sgC [97] 0 (pmsg [97, 108, 105, 99, 101] 1 (Wo.opn ([97])) (Xm.root ([97]) (1)) ((1 : Nat) : Int) [0, 0, 0, 0, 0, 0, 0, 0, 0, 0, 0, 0, 0, 0, 0, 0])).length) c19, .slice B19 ((sgP [97] 1 0).length) d19] 39, blk g6 [N64 (2), Str (Wo.opn (([97]))), Str (Xm.root (([97])) (1)), I ((1 : Nat) : Int), Str (enVal (1) ((Wo.opn (([97])))) ((Xm.root (([97])) (1))) (((1 : Nat) : Int)) (([0, 0, 0, 0, 0, 0, 0, 0, 0, 0, 0, 0, 0, 0, 0, 0])))] 34, m30, n30, blk g7 [Str ([97, 108, 105, 99, 101]), N64 (2), Str ((Wo.opn ([97]))), Str ((Xm.root ([97]) (1))), I (((1 : Nat) : Int)), Str ((enVal 1 (Wo.opn ([97])) (Xm.root ([97]) (1)) ((1 : Nat) : Int) [0, 0, 0, 0, 0, 0, 0, 0, 0, 0, 0, 0, 0, 0, 0, 0])), I ((1 : Nat) : Int), .slice A30 ((sgC [97] 1 (pmsg [97, 108, 105, 99, 101] 2 (Wo.opn ([97])) (Xm.root ([97]) (1)) ((1 : Nat) : Int) (enVal 1 (Wo.opn ([97])) (Xm.root ([97]) (1)) ((1 : Nat) : Int) [0, 0, 0, 0, 0, 0, 0, 0, 0, 0, 0, 0, 0, 0, 0, 0]))).length) c30, .slice B30 ((sgP [97] 1 1).length) d30] 39] _
      refine J.y (op_assign rfl rfl) rfl rfl rfl ?_
      refine J.nil ?_
      refine J.then_n (J.k hK8 ?_)
      refine J.keepE [(2, _), (3, _), (4, _), (5, _), (7, _), (8, _)] ⟨rfl, rfl, rfl, rfl, rfl, rfl, trivial⟩ ?_
      refine J.seq (fun K9 hK9 => ?_)
      refine J.region ?_
      refine J.y (op_move rfl rfl) rfl rfl rfl ?_
      refine J.y ((op_eql rfl rfl rfl).as (v' := .bool true) (congrArg Value.bool (decide_eq_true (by decide)))) rfl rfl rfl ?_
      refine J.y (op_move rfl rfl) rfl rfl rfl ?_
      refine J.yg (Wan.is rfl rfl rfl rfl rfl) (op_move rfl rfl) rfl rfl ?_
      refine J.yg (Wan.is rfl rfl rfl rfl rfl) ((op_eql rfl rfl rfl).as (v' := .bool true) (congrArg Value.bool (decide_eq_true (by decide)))) rfl rfl ?_
      refine J.y (op_pickT rfl rfl rfl) rfl rfl rfl ?_
      refine J.y (op_move rfl rfl) rfl rfl rfl ?_
      refine J.yg (Wan.is rfl rfl rfl rfl rfl) (op_move rfl rfl) rfl rfl ?_
      refine J.yg (Wan.is rfl rfl rfl rfl rfl) ((op_eql rfl rfl rfl).as (v' := .bool true) (congrArg Value.bool (decide_eq_true (by decide)))) rfl rfl ?_
      refine J.y (op_pickT rfl rfl rfl) rfl rfl rfl ?_
      refine J.y (op_move rfl rfl) rfl rfl rfl ?_
      refine J.yg (Wan.is rfl rfl rfl rfl rfl) (op_loadBA 5 rfl rfl rfl Tryz.isAgg39 Tryz.sizeOf39 rfl) rfl rfl ?_
      refine J.yg (Wan.is rfl rfl rfl rfl rfl) (op_buildStruct (l := []) (vs := []) (places := [(0, 1), (1, 3), (4, 1)]) (r := [.int .u64 0, Str [], Str [], I 0, Str []]) rfl rfl rfl Tryz.underlying34 Tryz.zeroValue34 (fun _ => by kernel_rfl) rfl) rfl rfl ?_
      refine J.eg (Wan.is rfl rfl rfl rfl rfl) (op_call rfl rfl ent13 (Ct.use0 (fun F' hF => judge_new F' (hK.mono (hF F (by simp))) (hA.mono (hF F (by simp))) (hT.mono (hF F (by simp))) [97] 1 (by decide) 0 (by decide) [97, 108, 105, 99, 101] (by decide) nAlice 1 [0, 0, 0, 0, 0, 0, 0, 0, 0, 0, 0, 0, 0, 0, 0, 0] hE1 A19 _ c19 (h19.sl.mono (hF m19 (by simp))) B19 _ d19 (k19.sl.mono (hF n19 (by simp))) (En.hist1 _ rfl rfl)))) rfl rfl ?_
      intro g46 _
      refine J.yg (Wan.is rfl rfl rfl rfl rfl) ((op_eql rfl rfl rfl).as (v' := .bool true) (congrArg Value.bool (decide_eq_true (by decide)))) rfl rfl ?_
      refine J.y (op_pickT rfl rfl rfl) rfl rfl rfl ?_
      refine J.y (op_move rfl rfl) rfl rfl rfl ?_
      refine J.yg (Wan.is rfl rfl rfl rfl rfl) (op_loadBA 9 rfl rfl rfl Tryz.isAgg39 Tryz.sizeOf39 rfl) rfl rfl ?_
      refine J.yg (Wan.is rfl rfl rfl rfl rfl) (op_loadBA 2 rfl rfl rfl Tryz.isAgg34 Tryz.sizeOf34 rfl) rfl rfl ?_
      refine J.eg (Wan.is rfl rfl rfl rfl rfl) (op_call rfl rfl ent13 (Ct.use0 (fun F' hF => judge_next F' (hK.mono (hF F (by simp))) (hA.mono (hF F (by simp))) (hT.mono (hF F (by simp))) [97] 1 (by decide) 1 (by decide) [97, 108, 105, 99, 101] (by decide) nAlice 2 (enVal 1 (Wo.opn ([97])) (Xm.root ([97]) (1)) ((1 : Nat) : Int) [0, 0, 0, 0, 0, 0, 0, 0, 0, 0, 0, 0, 0, 0, 0, 0]) hE2 A30 _ c30 (h30.sl.mono (hF m30 (by simp))) B30 _ d30 (k30.sl.mono (hF n30 (by simp))) 1 [0, 0, 0, 0, 0, 0, 0, 0, 0, 0, 0, 0, 0, 0, 0, 0] hE1 (nextK (by decide) rfl hv1 rfl)))) rfl rfl ?_
      intro g52 _
      refine J.yg (Wan.is rfl rfl rfl rfl rfl) ((op_eql rfl rfl rfl).as (v' := .bool true) (congrArg Value.bool (decide_eq_true (by decide)))) rfl rfl ?_
      refine J.y (op_pickT rfl rfl rfl) rfl rfl rfl ?_
      refine J.y (op_move rfl rfl) rfl rfl rfl ?_
      refine J.yg (Wan.is rfl rfl rfl rfl rfl) (op_loadBA 9 rfl rfl rfl Tryz.isAgg39 Tryz.sizeOf39 rfl) rfl rfl ?_
      refine J.yg (Wan.is rfl rfl rfl rfl rfl) (op_buildStruct (l := []) (vs := []) (places := [(0, 1), (1, 3), (4, 1)]) (r := [.int .u64 0, Str [], Str [], I 0, Str []]) rfl rfl rfl Tryz.underlying34 Tryz.zeroValue34 (fun _ => by kernel_rfl) rfl) rfl rfl ?_
      refine J.eg (Wan.is rfl rfl rfl rfl rfl) (op_call rfl rfl ent13 (Ct.use0 (fun F' hF => judge_newE F' (hK.mono (hF F (by simp))) (hA.mono (hF F (by simp))) (hT.mono (hF F (by simp))) [97] 1 (by decide) 1 (by decide) [97, 108, 105, 99, 101] (by decide) nAlice 2 (enVal 1 (Wo.opn ([97])) (Xm.root ([97]) (1)) ((1 : Nat) : Int) [0, 0, 0, 0, 0, 0, 0, 0, 0, 0, 0, 0, 0, 0, 0, 0]) hE2 A30 _ c30 (h30.sl.mono (hF m30 (by simp))) B30 _ d30 (k30.sl.mono (hF n30 (by simp))) (En.hist13 _ (by decide))))) rfl rfl ?_
      intro g58 _
      refine J.yg (Wan.is rfl rfl rfl rfl rfl) ((op_eql rfl rfl rfl).as (v' := .bool true) (congrArg Value.bool (decide_eq_true (by decide)))) rfl rfl ?_
      refine J.y (op_pickT rfl rfl rfl) rfl rfl rfl ?_
      refine J.y (op_assign rfl rfl) rfl rfl rfl ?_
      refine J.nil ?_
      refine J.then_n (J.k hK9 ?_)
      refine J.keepE [(0, _)] ⟨rfl, trivial⟩ ?_
      refine J.ret ?_
      exact J.done hw0 (fun _ _ h => h) (res1 rfl rfl) (retOk () rfl trivial [0] rfl (by decide))
  ·
    refine J.de rfl (op_alloc (l := [.int .u64 0, Str [], Str [], I 0, Str []]) rfl Tryz.zeroValue34 rfl) rfl rfl rfl (by simp) ?_
    intro g6 _
    change J _ _ _ [F, m10, blk g3 [N64 (1), Str (Wo.opn (([97]))), Str (Xm.root (([97])) (1)), I ((1 : Nat) : Int), Str ([0, 0, 0, 0, 0, 0, 0, 0, 0, 0, 0, 0, 0, 0, 0, 0])] 34, m19, n19, blk g4 [Str ([97, 108, 105, 99, 101]), N64 (1), Str ((Wo.opn ([97]))), Str ((Xm.root ([97]) (1))), I (((1 : Nat) : Int)), Str ([0, 0, 0, 0, 0, 0, 0, 0, 0, 0, 0, 0, 0, 0, 0, 0]), I ((0 : Nat) : Int), .slice A19 ((sgC [97] 0 (pmsg [97, 108, 105, 99, 101] 1 (Wo.opn ([97])) (Xm.root ([97]) (1)) ((1 : Nat) : Int) [0, 0, 0, 0, 0, 0, 0, 0, 0, 0, 0, 0, 0, 0, 0, 0])).length) c19, .slice B19 ((sgP [97] 1 0).length) d19] 39, blk g6 [.int .u64 0, Str [], Str [], I 0, Str []] 34] _
    refine J.de rfl (op_call rfl rfl ent6 (Ct.use0 (fun F' hF => xpubK_ct F' g10 ([97]) 1 (h10.mono (hF m10 (by simp)))))) rfl rfl rfl (by simp) ?_
    intro g23 _
    refine J.de rfl (op_call rfl rfl ent12 (Ct.use0 (fun F' hF => evalue_ct F' (hK.mono (hF F (by simp))) 1 (Wo.opn (([97]))) (Xm.root (([97])) (1)) ((1 : Nat) : Int) ([0, 0, 0, 0, 0, 0, 0, 0, 0, 0, 0, 0, 0, 0, 0, 0]) (by first | assumption | omega) (by first | assumption | omega) (by first | assumption | omega) (by first | assumption | omega)))) rfl rfl rfl (by simp) ?_
    intro g25 _
    refine J.dy rfl (op_buildStruct (l := [(0, .const ((Value.int IntKind.u64 2))), (1, .tmp 23), (2, .tmp 25)]) (vs := [N64 (2), .agg #[Str (Wo.opn (([97]))), Str (Xm.root (([97])) (1)), I ((1 : Nat) : Int)], Str (enVal (1) ((Wo.opn (([97])))) ((Xm.root (([97])) (1))) (((1 : Nat) : Int)) (([0, 0, 0, 0, 0, 0, 0, 0, 0, 0, 0, 0, 0, 0, 0, 0])))]) (places := [(0, 1), (1, 3), (4, 1)]) (r := [N64 (2), Str (Wo.opn (([97]))), Str (Xm.root (([97])) (1)), I ((1 : Nat) : Int), Str (enVal (1) ((Wo.opn (([97])))) ((Xm.root (([97])) (1))) (((1 : Nat) : Int)) (([0, 0, 0, 0, 0, 0, 0, 0, 0, 0, 0, 0, 0, 0, 0, 0])))]) rfl rfl rfl Tryz.underlying34 Tryz.zeroValue34 (fun _ => by kernel_rfl) rfl) rfl rfl rfl rfl ?_
    refine J.ds rfl (op_storeAll (i := 6) (l := [.int .u64 0, Str [], Str [], I 0, Str []]) (vs := [N64 (2), Str (Wo.opn (([97]))), Str (Xm.root (([97])) (1)), I ((1 : Nat) : Int), Str (enVal (1) ((Wo.opn (([97])))) ((Xm.root (([97])) (1))) (((1 : Nat) : Int)) (([0, 0, 0, 0, 0, 0, 0, 0, 0, 0, 0, 0, 0, 0, 0, 0])))]) rfl rfl rfl rfl rfl Tryz.sizeOf34 rfl rfl) rfl rfl rfl (fun _ _ => ?_)
    change J _ _ _ [F, m10, blk g3 [N64 (1), Str (Wo.opn (([97]))), Str (Xm.root (([97])) (1)), I ((1 : Nat) : Int), Str ([0, 0, 0, 0, 0, 0, 0, 0, 0, 0, 0, 0, 0, 0, 0, 0])] 34, m19, n19, blk g4 [Str ([97, 108, 105, 99, 101]), N64 (1), Str ((Wo.opn ([97]))), Str ((Xm.root ([97]) (1))), I (((1 : Nat) : Int)), Str ([0, 0, 0, 0, 0, 0, 0, 0, 0, 0, 0, 0, 0, 0, 0, 0]), I ((0 : Nat) : Int), .slice A19 ((sgC [97] 0 (pmsg [97, 108, 105, 99, 101] 1 (Wo.opn ([97])) (Xm.root ([97]) (1)) ((1 : Nat) : Int) [0, 0, 0, 0, 0, 0, 0, 0, 0, 0, 0, 0, 0, 0, 0, 0])).length) c19, .slice B19 ((sgP [97] 1 0).length) d19] 39, blk g6 [N64 (2), Str (Wo.opn (([97]))), Str (Xm.root (([97])) (1)), I ((1 : Nat) : Int), Str (enVal (1) ((Wo.opn (([97])))) ((Xm.root (([97])) (1))) (((1 : Nat) : Int)) (([0, 0, 0, 0, 0, 0, 0, 0, 0, 0, 0, 0, 0, 0, 0, 0])))] 34] _
    refine J.dnil ?_
    refine J.then_n (J.k hK5 ?_)
    refine J.keepE [(1, _), (2, _), (3, _), (4, _), (5, _), (6, _)] ⟨rfl, rfl, rfl, rfl, rfl, rfl, trivial⟩ ?_
    refine J.seq (fun K10 hK10 => ?_)
    refine J.region ?_
    refine J.y (op_move rfl rfl) rfl rfl rfl ?_
    refine J.y (op_loadBA 6 rfl rfl rfl Tryz.isAgg34 Tryz.sizeOf34 rfl) rfl rfl rfl ?_
    refine J.e (op_call rfl rfl ent7 (Ct.use (new := fun x : (Option Addr × Nat × Hp) × (Option Addr × Nat × Hp) => [x.1.2.2, x.2.2.2]) (fun F' hF => psign_ct F' (hK.mono (hF F (by simp))) g10 [97] 1 (h10.mono (hF m10 (by simp))) (by decide) (by decide) 1 (by decide) [97, 108, 105, 99, 101] (by first | decide | omega) 2 (Wo.opn ([97])) (Xm.root ([97]) (1)) ((1 : Nat) : Int) (enVal 1 (Wo.opn ([97])) (Xm.root ([97]) (1)) ((1 : Nat) : Int) [0, 0, 0, 0, 0, 0, 0, 0, 0, 0, 0, 0, 0, 0, 0, 0]) hE2))) rfl rfl rfl ?_
    rintro ⟨⟨A30, c30, m30⟩, ⟨B30, d30, n30⟩⟩ ⟨h30, k30⟩
    change J _ ((30, .tuple #[.agg #[Str ([97, 108, 105, 99, 101]), N64 (2), Str ((Wo.opn ([97]))), Str ((Xm.root ([97]) (1))), I (((1 : Nat) : Int)), Str ((enVal 1 (Wo.opn ([97])) (Xm.root ([97]) (1)) ((1 : Nat) : Int) [0, 0, 0, 0, 0, 0, 0, 0, 0, 0, 0, 0, 0, 0, 0, 0])), I ((1 : Nat) : Int), .slice A30 (sgC [97] 1 (pmsg [97, 108, 105, 99, 101] 2 (Wo.opn ([97])) (Xm.root ([97]) (1)) ((1 : Nat) : Int) (enVal 1 (Wo.opn ([97])) (Xm.root ([97]) (1)) ((1 : Nat) : Int) [0, 0, 0, 0, 0, 0, 0, 0, 0, 0, 0, 0, 0, 0, 0, 0]))).length c30, .slice B30 (sgP [97] 1 1).length d30], I ((0 : Nat) : Int)]) :: _) _ [F, m10, blk g3 [N64 (1), Str (Wo.opn (([97]))), Str (Xm.root (([97])) (1)), I ((1 : Nat) : Int), Str ([0, 0, 0, 0, 0, 0, 0, 0, 0, 0, 0, 0, 0, 0, 0, 0])] 34, m19, n19, blk g4 [Str ([97, 108, 105, 99, 101]), N64 (1), Str ((Wo.opn ([97]))), Str ((Xm.root ([97]) (1))), I (((1 : Nat) : Int)), Str ([0, 0, 0, 0, 0, 0, 0, 0, 0, 0, 0, 0, 0, 0, 0, 0]), I ((0 : Nat) : Int), .slice A19 ((sgC [97] 0 (pmsg [97, 108, 105, 99, 101] 1 (Wo.opn ([97])) (Xm.root ([97]) (1)) ((1 : Nat) : Int) [0, 0, 0, 0, 0, 0, 0, 0, 0, 0, 0, 0, 0, 0, 0, 0])).length) c19, .slice B19 ((sgP [97] 1 0).length) d19] 39, blk g6 [N64 (2), Str (Wo.opn (([97]))), Str (Xm.root (([97])) (1)), I ((1 : Nat) : Int), Str (enVal (1) ((Wo.opn (([97])))) ((Xm.root (([97])) (1))) (((1 : Nat) : Int)) (([0, 0, 0, 0, 0, 0, 0, 0, 0, 0, 0, 0, 0, 0, 0, 0])))] 34, m30, n30] _
    refine J.y (op_move rfl rfl) rfl rfl rfl ?_
    refine J.y (op_extract (v := .agg #[Str ([97, 108, 105, 99, 101]), N64 (2), Str ((Wo.opn ([97]))), Str ((Xm.root ([97]) (1))), I (((1 : Nat) : Int)), Str ((enVal 1 (Wo.opn ([97])) (Xm.root ([97]) (1)) ((1 : Nat) : Int) [0, 0, 0, 0, 0, 0, 0, 0, 0, 0, 0, 0, 0, 0, 0, 0])), I ((1 : Nat) : Int), .slice A30 ((sgC [97] 1 (pmsg [97, 108, 105, 99, 101] 2 (Wo.opn ([97])) (Xm.root ([97]) (1)) ((1 : Nat) : Int) (enVal 1 (Wo.opn ([97])) (Xm.root ([97]) (1)) ((1 : Nat) : Int) [0, 0, 0, 0, 0, 0, 0, 0, 0, 0, 0, 0, 0, 0, 0, 0]))).length) c30, .slice B30 ((sgP [97] 1 1).length) d30]) rfl rfl rfl) rfl rfl rfl ?_
    refine J.y (op_extract (v := I ((0 : Nat) : Int)) rfl rfl rfl) rfl rfl rfl ?_
    refine J.e (op_alloc (l := [Str [], .int .u64 0, Str [], Str [], I 0, Str [], I 0, .slice none 0 0, .slice none 0 0]) rfl Tryz.zeroValue39 rfl) rfl rfl rfl ?_
    intro g7 _
    change J _ _ _ [F, m10, blk g3 [N64 (1), Str (Wo.opn (([97]))), Str (Xm.root (([97])) (1)), I ((1 : Nat) : Int), Str ([0, 0, 0, 0, 0, 0, 0, 0, 0, 0, 0, 0, 0, 0, 0, 0])] 34, m19, n19, blk g4 [Str ([97, 108, 105, 99, 101]), N64 (1), Str ((Wo.opn ([97]))), Str ((Xm.root ([97]) (1))), I (((1 : Nat) : Int)), Str ([0, 0, 0, 0, 0, 0, 0, 0, 0, 0, 0, 0, 0, 0, 0, 0]), I ((0 : Nat) : Int), .slice A19 ((sgC [97] 0 (pmsg [97, 108, 105, 99, 101] 1 (Wo.opn ([97])) (Xm.root ([97]) (1)) ((1 : Nat) : Int) [0, 0, 0, 0, 0, 0, 0, 0, 0, 0, 0, 0, 0, 0, 0, 0])).length) c19, .slice B19 ((sgP [97] 1 0).length) d19] 39, blk g6 [N64 (2), Str (Wo.opn (([97]))), Str (Xm.root (([97])) (1)), I ((1 : Nat) : Int), Str (enVal (1) ((Wo.opn (([97])))) ((Xm.root (([97])) (1))) (((1 : Nat) : Int)) (([0, 0, 0, 0, 0, 0, 0, 0, 0, 0, 0, 0, 0, 0, 0, 0])))] 34, m30, n30, blk g7 [Str [], .int .u64 0, Str [], Str [], I 0, Str [], I 0, .slice none 0 0, .slice none 0 0] 39] _
    refine J.s (op_storeAll (i := 9) (l := [Str [], .int .u64 0, Str [], Str [], I 0, Str [], I 0, .slice none 0 0, .slice none 0 0]) (vs := [Str ([97, 108, 105, 99, 101]), N64 (2), Str ((Wo.opn ([97]))), Str ((Xm.root ([97]) (1))), I (((1 : Nat) : Int)), Str ((enVal 1 (Wo.opn ([97])) (Xm.root ([97]) (1)) ((1 : Nat) : Int) [0, 0, 0, 0, 0, 0, 0, 0, 0, 0, 0, 0, 0, 0, 0, 0])), I ((1 : Nat) : Int), .slice A30 ((sgC [97] 1 (pmsg [97, 108, 105, 99, 101] 2 (Wo.opn ([97])) (Xm.root ([97]) (1)) ((1 : Nat) : Int) (enVal 1 (Wo.opn ([97])) (Xm.root ([97]) (1)) ((1 : Nat) : Int) [0, 0, 0, 0, 0, 0, 0, 0, 0, 0, 0, 0, 0, 0, 0, 0]))).length) c30, .slice B30 ((sgP [97] 1 1).length) d30]) rfl rfl rfl rfl rfl Tryz.sizeOf39 rfl rfl) rfl rfl (fun _ _ => ?_)
    change J _ _ _ [F, m10, blk g3 [N64 (1), Str (Wo.opn (([97]))), Str (Xm.root (([97])) (1)), I ((1 : Nat) : Int), Str ([0, 0, 0, 0, 0, 0, 0, 0, 0, 0, 0, 0, 0, 0, 0, 0])] 34, m19, n19, blk g4 [Str ([97, 108, 105, 99, 101]), N64 (1), Str ((Wo.opn ([97]))), Str ((Xm.root ([97]) (1))), I (((1 : Nat) : Int)), Str ([0, 0, 0, 0, 0, 0, 0, 0, 0, 0, 0, 0, 0, 0, 0, 0]), I ((0 : Nat) : Int), .slice A19 ((sgC [97] 0 (pmsg [97, 108, 105, 99, 101] 1 (Wo.opn ([97])) (Xm.root ([97]) (1)) ((1 : Nat) : Int) [0, 0, 0, 0, 0, 0, 0, 0, 0, 0, 0, 0, 0, 0, 0, 0])).length) c19, .slice B19 ((sgP [97] 1 0).length) d19] 39, blk g6 [N64 (2), Str (Wo.opn (([97]))), Str (Xm.root (([97])) (1)), I ((1 : Nat) : Int), Str (enVal (1) ((Wo.opn (([97])))) ((Xm.root (([97])) (1))) (((1 : Nat) : Int)) (([0, 0, 0, 0, 0, 0, 0, 0, 0, 0, 0, 0, 0, 0, 0, 0])))] 34, m30, n30, blk g7 [Str ([97, 108, 105, 99, 101]), N64 (2), Str ((Wo.opn ([97]))), Str ((Xm.root ([97]) (1))), I (((1 : Nat) : Int)), Str ((enVal 1 (Wo.opn ([97])) (Xm.root ([97]) (1)) ((1 : Nat) : Int) [0, 0, 0, 0, 0, 0, 0, 0, 0, 0, 0, 0, 0, 0, 0, 0])), I ((1 : Nat) : Int), .slice A30 ((sgC [97] 1 (pmsg [97, 108, 105, 99, 101] 2 (Wo.opn ([97])) (Xm.root ([97]) (1)) ((1 : Nat) : Int) (enVal 1 (Wo.opn ([97])) (Xm.root ([97]) (1)) ((1 : Nat) : Int) [0, 0, 0, 0, 0, 0, 0, 0, 0, 0, 0, 0, 0, 0, 0, 0]))).length) c30, .slice B30 ((sgP [97] 1 1).length) d30] 39] _
    refine J.y (op_assign rfl rfl) rfl rfl rfl ?_
    refine J.nil ?_
    refine J.then_n (J.k hK10 ?_)
    refine J.keepE [(2, _), (3, _), (4, _), (5, _), (7, _), (8, _)] ⟨rfl, rfl, rfl, rfl, rfl, rfl, trivial⟩ ?_
    refine J.seq (fun K11 hK11 => ?_)
    refine J.region ?_
    refine J.y (op_move rfl rfl) rfl rfl rfl ?_
    refine J.y ((op_eql rfl rfl rfl).as (v' := .bool true) (congrArg Value.bool (decide_eq_true (by decide)))) rfl rfl rfl ?_
    refine J.y (op_move rfl rfl) rfl rfl rfl ?_
    refine J.yg (Wan.is rfl rfl rfl rfl rfl) (op_move rfl rfl) rfl rfl ?_
    refine J.yg (Wan.is rfl rfl rfl rfl rfl) ((op_eql rfl rfl rfl).as (v' := .bool true) (congrArg Value.bool (decide_eq_true (by decide)))) rfl rfl ?_
    refine J.y (op_pickT rfl rfl rfl) rfl rfl rfl ?_
    refine J.y (op_move rfl rfl) rfl rfl rfl ?_
    refine J.yg (Wan.is rfl rfl rfl rfl rfl) (op_move rfl rfl) rfl rfl ?_
    refine J.yg (Wan.is rfl rfl rfl rfl rfl) ((op_eql rfl rfl rfl).as (v' := .bool true) (congrArg Value.bool (decide_eq_true (by decide)))) rfl rfl ?_
    refine J.y (op_pickT rfl rfl rfl) rfl rfl rfl ?_
    refine J.y (op_move rfl rfl) rfl rfl rfl ?_
    refine J.yg (Wan.is rfl rfl rfl rfl rfl) (op_loadBA 5 rfl rfl rfl Tryz.isAgg39 Tryz.sizeOf39 rfl) rfl rfl ?_
    refine J.yg (Wan.is rfl rfl rfl rfl rfl) (op_buildStruct (l := []) (vs := []) (places := [(0, 1), (1, 3), (4, 1)]) (r := [.int .u64 0, Str [], Str [], I 0, Str []]) rfl rfl rfl Tryz.underlying34 Tryz.zeroValue34 (fun _ => by kernel_rfl) rfl) rfl rfl ?_
    refine J.eg (Wan.is rfl rfl rfl rfl rfl) (op_call rfl rfl ent13 (Ct.use0 (fun F' hF => judge_new F' (hK.mono (hF F (by simp))) (hA.mono (hF F (by simp))) (hT.mono (hF F (by simp))) [97] 1 (by decide) 0 (by decide) [97, 108, 105, 99, 101] (by decide) nAlice 1 [0, 0, 0, 0, 0, 0, 0, 0, 0, 0, 0, 0, 0, 0, 0, 0] hE1 A19 _ c19 (h19.sl.mono (hF m19 (by simp))) B19 _ d19 (k19.sl.mono (hF n19 (by simp))) (En.hist1 _ rfl rfl)))) rfl rfl ?_
    intro g46 _
    refine J.yg (Wan.is rfl rfl rfl rfl rfl) ((op_eql rfl rfl rfl).as (v' := .bool true) (congrArg Value.bool (decide_eq_true (by decide)))) rfl rfl ?_
    refine J.y (op_pickT rfl rfl rfl) rfl rfl rfl ?_
    refine J.y (op_move rfl rfl) rfl rfl rfl ?_
    refine J.yg (Wan.is rfl rfl rfl rfl rfl) (op_loadBA 9 rfl rfl rfl Tryz.isAgg39 Tryz.sizeOf39 rfl) rfl rfl ?_
    refine J.yg (Wan.is rfl rfl rfl rfl rfl) (op_loadBA 2 rfl rfl rfl Tryz.isAgg34 Tryz.sizeOf34 rfl) rfl rfl ?_
    refine J.eg (Wan.is rfl rfl rfl rfl rfl) (op_call rfl rfl ent13 (Ct.use0 (fun F' hF => judge_next F' (hK.mono (hF F (by simp))) (hA.mono (hF F (by simp))) (hT.mono (hF F (by simp))) [97] 1 (by decide) 1 (by decide) [97, 108, 105, 99, 101] (by decide) nAlice 2 (enVal 1 (Wo.opn ([97])) (Xm.root ([97]) (1)) ((1 : Nat) : Int) [0, 0, 0, 0, 0, 0, 0, 0, 0, 0, 0, 0, 0, 0, 0, 0]) hE2 A30 _ c30 (h30.sl.mono (hF m30 (by simp))) B30 _ d30 (k30.sl.mono (hF n30 (by simp))) 1 [0, 0, 0, 0, 0, 0, 0, 0, 0, 0, 0, 0, 0, 0, 0, 0] hE1 (nextK (by decide) rfl hv1 rfl)))) rfl rfl ?_
    intro g52 _
    refine J.yg (Wan.is rfl rfl rfl rfl rfl) ((op_eql rfl rfl rfl).as (v' := .bool true) (congrArg Value.bool (decide_eq_true (by decide)))) rfl rfl ?_
    refine J.y (op_pickT rfl rfl rfl) rfl rfl rfl ?_
    refine J.y (op_move rfl rfl) rfl rfl rfl ?_
    refine J.yg (Wan.is rfl rfl rfl rfl rfl) (op_loadBA 9 rfl rfl rfl Tryz.isAgg39 Tryz.sizeOf39 rfl) rfl rfl ?_
    refine J.yg (Wan.is rfl rfl rfl rfl rfl) (op_buildStruct (l := []) (vs := []) (places := [(0, 1), (1, 3), (4, 1)]) (r := [.int .u64 0, Str [], Str [], I 0, Str []]) rfl rfl rfl Tryz.underlying34 Tryz.zeroValue34 (fun _ => by kernel_rfl) rfl) rfl rfl ?_
    refine J.eg (Wan.is rfl rfl rfl rfl rfl) (op_call rfl rfl ent13 (Ct.use0 (fun F' hF => judge_newE F' (hK.mono (hF F (by simp))) (hA.mono (hF F (by simp))) (hT.mono (hF F (by simp))) [97] 1 (by decide) 1 (by decide) [97, 108, 105, 99, 101] (by decide) nAlice 2 (enVal 1 (Wo.opn ([97])) (Xm.root ([97]) (1)) ((1 : Nat) : Int) [0, 0, 0, 0, 0, 0, 0, 0, 0, 0, 0, 0, 0, 0, 0, 0]) hE2 A30 _ c30 (h30.sl.mono (hF m30 (by simp))) B30 _ d30 (k30.sl.mono (hF n30 (by simp))) (En.hist13 _ (by decide))))) rfl rfl ?_
    intro g58 _
    refine J.yg (Wan.is rfl rfl rfl rfl rfl) ((op_eql rfl rfl rfl).as (v' := .bool true) (congrArg Value.bool (decide_eq_true (by decide)))) rfl rfl ?_
    refine J.y (op_pickT rfl rfl rfl) rfl rfl rfl ?_
    refine J.y (op_assign rfl rfl) rfl rfl rfl ?_
    refine J.nil ?_
    refine J.then_n (J.k hK11 ?_)
    refine J.keepE [(0, _)] ⟨rfl, trivial⟩ ?_
    refine J.ret ?_
    exact J.done hw0 (fun _ _ h => h) (res1 rfl rfl) (retOk () rfl trivial [0] rfl (by decide))

theorem policyCodes_no (F : Hp) (hK : Cells F ⟨0, 0, none⟩ (Sha.K.map W32)) (hA : Cells F ⟨1, 0, none⟩ alphaV) (hT : TabsF F) (lb : List UInt8) (ver : UInt32) (hver : ver.toNat = 0) (cx : Nat) (hcx : cx < 65536) : Ct Tryz.prog 3 [Str (lb), W32 ver, .int .u16 ((cx : Nat) : Int)] [F] (fun _ : Unit => .bool true) (fun _ => True) (fun _ => [F]) := by
  have ho := Wo.opn_length [97]
  have hr := Mk.root_16 [97] 0
  have hvl := ver.toNat_lt
  have hE : enErr ver.toNat (Wo.opn ([97])) (Xm.root ([97]) (0)) ((0 : Nat) : Int) [0, 0, 0, 0, 0, 0, 0, 0, 0, 0, 0, 0, 0, 0, 0, 0] = 13 := en_13 (by omega)
  have hne : enErr ver.toNat (Wo.opn ([97])) (Xm.root ([97]) (0)) ((0 : Nat) : Int) [0, 0, 0, 0, 0, 0, 0, 0, 0, 0, 0, 0, 0, 0, 0, 0] ≠ 0 := by rw [hE]; decide
  refine Ct.walk Tryz.func3 rfl Tryz.ntmps3 rfl (fun w0 hw0 => ?_)
  change J _ [(0, _), (1, _), (2, _)] _ _ _
  refine J.seq (fun K1 hK1 => ?_)
  refine J.region ?_
  refine J.y (op_assign rfl rfl) rfl rfl rfl ?_
  refine J.nil ?_
  refine J.then_n (J.k hK1 ?_)
  refine J.keepE [(0, _), (1, _), (2, _)] ⟨rfl, rfl, rfl, trivial⟩ ?_
  refine J.seq (fun K2 hK2 => ?_)
  refine J.seq (fun K3 hK3 => ?_)
  refine J.region ?_
  refine J.e (op_call rfl rfl ent4 (Ct.use0 (fun F' hF => speaks18_ct F' (hK.mono (hF F (by simp))) (hA.mono (hF F (by simp))) (hT.mono (hF F (by simp)))))) rfl rfl rfl ?_
  intro g22 _
  refine J.y (op_not rfl rfl) rfl rfl rfl ?_
  refine J.nil ?_
  refine J.then_n (J.k hK3 ?_)
  refine J.keepE [(0, _), (1, _), (2, _), (23, _)] ⟨rfl, rfl, rfl, rfl, trivial⟩ ?_
  refine J.condF rfl rfl ?_
  refine J.skip ?_
  refine J.then_n (J.k hK2 ?_)
  refine J.keepE [(0, _), (1, _), (2, _)] ⟨rfl, rfl, rfl, trivial⟩ ?_
  refine J.seq (fun K4 hK4 => ?_)
  refine J.region ?_
  refine J.y (op_move rfl rfl) rfl rfl rfl ?_
  refine J.y (op_move rfl rfl) rfl rfl rfl ?_
  refine J.y (op_slen Tryz.underlying9 rfl rfl) rfl rfl rfl ?_
  refine J.y ((op_min rfl rfl rfl).as (v' := I ((min lb.length 50 : Nat) : Int)) (congrArg I (by omega))) rfl rfl rfl ?_
  refine J.y ((op_sslice (a := lb) (l := 0) (h := (min lb.length 50)) Tryz.underlying9 rfl rfl rfl rfl ⟨by first | omega | (simp only [List.length_append, List.length_cons, List.length_nil, List.length_take, List.length_drop] at *; omega), by first | omega | (simp only [List.length_append, List.length_cons, List.length_nil, List.length_take, List.length_drop] at *; omega)⟩).as (v' := Str (lb.take (min lb.length 50))) (congrArg Str List.drop_zero)) rfl rfl rfl ?_
  refine J.y (op_assign rfl rfl) rfl rfl rfl ?_
  refine J.nil ?_
  refine J.then_n (J.k hK4 ?_)
  refine J.keepE [(0, _), (1, _), (2, _)] ⟨rfl, rfl, rfl, trivial⟩ ?_
  refine J.seq (fun K5 hK5 => ?_)
  obtain ⟨s, hs⟩ : ∃ s, s = lb.take (min lb.length 50) := ⟨_, rfl⟩
  rw [← hs]
  have hsl : s.length ≤ 50 := by rw [hs, List.length_take]; omega
  refine J.region ?_
  refine J.e (op_call rfl rfl ent5 (Ct.use (new := fun x : Nat × Hp => [x.2]) (fun F' hF => xnewK_ct F' (hK.mono (hF F (by simp))) [97] 0 (by decide) (by decide)))) rfl rfl rfl ?_
  rintro ⟨g30, m30⟩ h30
  try dsimp only at h30
  change J _ ((30, .tuple #[Ptr g30, I 0]) :: _) _ [F, m30] _
  refine J.y (op_move rfl rfl) rfl rfl rfl ?_
  refine J.y (op_extract (v := Ptr g30) rfl rfl rfl) rfl rfl rfl ?_
  refine J.y (op_extract (v := I ((0 : Nat) : Int)) rfl rfl rfl) rfl rfl rfl ?_
  refine J.y (op_assign rfl rfl) rfl rfl rfl ?_
  refine J.y (op_assign rfl rfl) rfl rfl rfl ?_
  refine J.nil ?_
  refine J.then_n (J.k hK5 ?_)
  refine J.keepE [(0, _), (1, _), (2, _), (7, _)] ⟨rfl, rfl, rfl, rfl, trivial⟩ ?_
  refine J.seq (fun K6 hK6 => ?_)
  refine J.region ?_
  refine J.y (op_move rfl rfl) rfl rfl rfl ?_
  refine J.y ((op_cv_u32_u64 rfl rfl Tryz.underlying22 Tryz.underlying29).as (v' := N64 (ver.toNat)) (by show Value.int .u64 _ = Value.int .u64 _; rw [UInt32.toNat_toUInt64])) rfl rfl rfl ?_
  refine J.y (op_move rfl rfl) rfl rfl rfl ?_
  refine J.e (op_call rfl rfl ent6 (Ct.use0 (fun F' hF => xpubK_ct F' g30 ([97]) 0 (h30.mono (hF m30 (by simp)))))) rfl rfl rfl ?_
  intro g36 _
  refine J.y (op_buildStruct (l := [(0, .tmp 34), (1, .tmp 36), (2, .const ((Value.string (ByteArray.mk #[0, 0, 0, 0, 0, 0, 0, 0, 0, 0, 0, 0, 0, 0, 0, 0]))))]) (vs := [N64 (ver.toNat), .agg #[Str (Wo.opn (([97]))), Str (Xm.root (([97])) (0)), I ((0 : Nat) : Int)], Str ([0, 0, 0, 0, 0, 0, 0, 0, 0, 0, 0, 0, 0, 0, 0, 0])]) (places := [(0, 1), (1, 3), (4, 1)]) (r := [N64 (ver.toNat), Str (Wo.opn (([97]))), Str (Xm.root (([97])) (0)), I ((0 : Nat) : Int), Str ([0, 0, 0, 0, 0, 0, 0, 0, 0, 0, 0, 0, 0, 0, 0, 0])]) rfl rfl rfl Tryz.underlying34 Tryz.zeroValue34 (fun _ => by kernel_rfl) rfl) rfl rfl rfl ?_
  refine J.e (op_alloc (l := [.int .u64 0, Str [], Str [], I 0, Str []]) rfl Tryz.zeroValue34 rfl) rfl rfl rfl ?_
  intro g9 _
  change J _ _ _ [F, m30, blk g9 [.int .u64 0, Str [], Str [], I 0, Str []] 34] _
  refine J.s (op_storeAll (i := 2) (l := [.int .u64 0, Str [], Str [], I 0, Str []]) (vs := [N64 (ver.toNat), Str (Wo.opn (([97]))), Str (Xm.root (([97])) (0)), I ((0 : Nat) : Int), Str ([0, 0, 0, 0, 0, 0, 0, 0, 0, 0, 0, 0, 0, 0, 0, 0])]) rfl rfl rfl rfl rfl Tryz.sizeOf34 rfl rfl) rfl rfl (fun _ _ => ?_)
  change J _ _ _ [F, m30, blk g9 [N64 (ver.toNat), Str (Wo.opn (([97]))), Str (Xm.root (([97])) (0)), I ((0 : Nat) : Int), Str ([0, 0, 0, 0, 0, 0, 0, 0, 0, 0, 0, 0, 0, 0, 0, 0])] 34] _
  refine J.nil ?_
  refine J.then_n (J.k hK6 ?_)
  refine J.keepE [(0, _), (1, _), (2, _), (7, _), (9, _)] ⟨rfl, rfl, rfl, rfl, rfl, trivial⟩ ?_
  refine J.seq (fun K7 hK7 => ?_)
  refine J.region ?_
  refine J.y (op_move rfl rfl) rfl rfl rfl ?_
  refine J.y (op_move rfl rfl) rfl rfl rfl ?_
  refine J.y (op_loadBA 2 rfl rfl rfl Tryz.isAgg34 Tryz.sizeOf34 rfl) rfl rfl rfl ?_
  refine J.e (op_call rfl rfl ent7 (Ct.use0 (fun F' hF => psignE_ct F' g30 ((0 : Nat) : Int) s ver.toNat (Wo.opn ([97])) (Xm.root ([97]) (0)) ((0 : Nat) : Int) [0, 0, 0, 0, 0, 0, 0, 0, 0, 0, 0, 0, 0, 0, 0, 0] (by omega) (by omega) (by omega) (by decide) hne))) rfl rfl rfl ?_
  intro g42 _
  refine J.y (op_move rfl rfl) rfl rfl rfl ?_
  refine J.y (op_extract (v := .agg #[Str [], N64 (0), Str [], Str [], I ((0 : Nat) : Int), Str [], I ((0 : Nat) : Int), .slice none 0 0, .slice none 0 0]) rfl rfl rfl) rfl rfl rfl ?_
  refine J.y (op_extract (v := I (enErr ver.toNat (Wo.opn ([97])) (Xm.root ([97]) (0)) ((0 : Nat) : Int) [0, 0, 0, 0, 0, 0, 0, 0, 0, 0, 0, 0, 0, 0, 0, 0])) rfl rfl rfl) rfl rfl rfl ?_
  refine J.e (op_alloc (l := [Str [], .int .u64 0, Str [], Str [], I 0, Str [], I 0, .slice none 0 0, .slice none 0 0]) rfl Tryz.zeroValue39 rfl) rfl rfl rfl ?_
  intro g10 _
  change J _ _ _ [F, m30, blk g9 [N64 (ver.toNat), Str (Wo.opn (([97]))), Str (Xm.root (([97])) (0)), I ((0 : Nat) : Int), Str ([0, 0, 0, 0, 0, 0, 0, 0, 0, 0, 0, 0, 0, 0, 0, 0])] 34, blk g10 [Str [], .int .u64 0, Str [], Str [], I 0, Str [], I 0, .slice none 0 0, .slice none 0 0] 39] _
  refine J.s (op_storeAll (i := 3) (l := [Str [], .int .u64 0, Str [], Str [], I 0, Str [], I 0, .slice none 0 0, .slice none 0 0]) (vs := [Str [], N64 (0), Str [], Str [], I ((0 : Nat) : Int), Str [], I ((0 : Nat) : Int), .slice none 0 0, .slice none 0 0]) rfl rfl rfl rfl rfl Tryz.sizeOf39 rfl rfl) rfl rfl (fun _ _ => ?_)
  change J _ _ _ [F, m30, blk g9 [N64 (ver.toNat), Str (Wo.opn (([97]))), Str (Xm.root (([97])) (0)), I ((0 : Nat) : Int), Str ([0, 0, 0, 0, 0, 0, 0, 0, 0, 0, 0, 0, 0, 0, 0, 0])] 34, blk g10 [Str [], N64 (0), Str [], Str [], I ((0 : Nat) : Int), Str [], I ((0 : Nat) : Int), .slice none 0 0, .slice none 0 0] 39] _
  refine J.y (op_assign rfl rfl) rfl rfl rfl ?_
  refine J.nil ?_
  refine J.then_n (J.k hK7 ?_)
  refine J.keepE [(0, _), (1, _), (2, _), (7, _), (9, _), (10, _), (11, _)] ⟨rfl, rfl, rfl, rfl, rfl, rfl, rfl, trivial⟩ ?_
  refine J.seq (fun K8 hK8 => ?_)
  refine J.seq (fun K9 hK9 => ?_)
  refine J.region ?_
  refine J.y (op_move rfl rfl) rfl rfl rfl ?_
  refine J.y ((op_eql rfl rfl rfl).as (v' := .bool true) (congrArg Value.bool (decide_eq_true (by omega)))) rfl rfl rfl ?_
  refine J.nil ?_
  refine J.then_n (J.k hK9 ?_)
  refine J.keepE [(0, _), (2, _), (7, _), (9, _), (10, _), (11, _), (46, _)] ⟨rfl, rfl, rfl, rfl, rfl, rfl, rfl, trivial⟩ ?_
  refine J.condT rfl rfl ?_
  refine J.seq (fun K10 hK10 => ?_)
  refine J.region ?_
  refine J.y (op_move rfl rfl) rfl rfl rfl ?_
  refine J.y ((op_eql rfl rfl rfl).as (v' := .bool true) (congrArg Value.bool (decide_eq_true (hE)))) rfl rfl rfl ?_
  refine J.y (op_move rfl rfl) rfl rfl rfl ?_
  refine J.yg (Wan.is rfl rfl rfl rfl rfl) (op_move rfl rfl) rfl rfl ?_
  refine J.yg (Wan.is rfl rfl rfl rfl rfl) (op_loadBA 2 rfl rfl rfl Tryz.isAgg34 Tryz.sizeOf34 rfl) rfl rfl ?_
  refine J.eg (Wan.is rfl rfl rfl rfl rfl) (op_call rfl rfl ent8 (Ct.use0 (fun F' hF => pmsgE_ct F' s ver.toNat (Wo.opn ([97])) (Xm.root ([97]) (0)) ((0 : Nat) : Int) [0, 0, 0, 0, 0, 0, 0, 0, 0, 0, 0, 0, 0, 0, 0, 0] (by omega) (by omega) (by omega) (by decide) hne))) rfl rfl ?_
  intro g52 _
  refine J.yg (Wan.is rfl rfl rfl rfl rfl) ((op_seq rfl rfl rfl).as (v' := .bool true) (congrArg Value.bool (decide_eq_true (rfl)))) rfl rfl ?_
  refine J.y (op_pickT rfl rfl rfl) rfl rfl rfl ?_
  refine J.y (op_assign rfl rfl) rfl rfl rfl ?_
  refine J.nil ?_
  refine J.then_n (J.k hK10 ?_)
  refine J.keepE [(6, _)] ⟨rfl, trivial⟩ ?_
  refine J.ret ?_
  refine J.then_r ?_
  exact J.done hw0 (fun _ _ h => h) (res1 rfl rfl) (retOk () rfl trivial [0] rfl (by decide))

theorem policyCodes_ok (F : Hp) (hK : Cells F ⟨0, 0, none⟩ (Sha.K.map W32)) (hA : Cells F ⟨1, 0, none⟩ alphaV) (hT : TabsF F) (lb : List UInt8) (ver : UInt32) (hver : ver.toNat ≠ 0) (cx : Nat) (hcx : cx < 65536) : Ct Tryz.prog 3 [Str (lb), W32 ver, .int .u16 ((cx : Nat) : Int)] [F] (fun _ : Unit => .bool true) (fun _ => True) (fun _ => [F]) := by
  have ho := Wo.opn_length [97]
  have hr := Mk.root_16 [97] 0
  have hvl := ver.toNat_lt
  have hE : enErr ver.toNat (Wo.opn ([97])) (Xm.root ([97]) (0)) ((0 : Nat) : Int) [0, 0, 0, 0, 0, 0, 0, 0, 0, 0, 0, 0, 0, 0, 0, 0] = 0 := en_key (by omega) (by omega) (by decide) rfl
  refine Ct.walk Tryz.func3 rfl Tryz.ntmps3 rfl (fun w0 hw0 => ?_)
  change J _ [(0, _), (1, _), (2, _)] _ _ _
  refine J.seq (fun K1 hK1 => ?_)
  refine J.region ?_
  refine J.y (op_assign rfl rfl) rfl rfl rfl ?_
  refine J.nil ?_
  refine J.then_n (J.k hK1 ?_)
  refine J.keepE [(0, _), (1, _), (2, _)] ⟨rfl, rfl, rfl, trivial⟩ ?_
  refine J.seq (fun K2 hK2 => ?_)
  refine J.seq (fun K3 hK3 => ?_)
  refine J.region ?_
  refine J.e (op_call rfl rfl ent4 (Ct.use0 (fun F' hF => speaks18_ct F' (hK.mono (hF F (by simp))) (hA.mono (hF F (by simp))) (hT.mono (hF F (by simp)))))) rfl rfl rfl ?_
  intro g22 _
  refine J.y (op_not rfl rfl) rfl rfl rfl ?_
  refine J.nil ?_
  refine J.then_n (J.k hK3 ?_)
  refine J.keepE [(0, _), (1, _), (2, _), (23, _)] ⟨rfl, rfl, rfl, rfl, trivial⟩ ?_
  refine J.condF rfl rfl ?_
  refine J.skip ?_
  refine J.then_n (J.k hK2 ?_)
  refine J.keepE [(0, _), (1, _), (2, _)] ⟨rfl, rfl, rfl, trivial⟩ ?_
  refine J.seq (fun K4 hK4 => ?_)
  refine J.region ?_
  refine J.y (op_move rfl rfl) rfl rfl rfl ?_
  refine J.y (op_move rfl rfl) rfl rfl rfl ?_
  refine J.y (op_slen Tryz.underlying9 rfl rfl) rfl rfl rfl ?_
  refine J.y ((op_min rfl rfl rfl).as (v' := I ((min lb.length 50 : Nat) : Int)) (congrArg I (by omega))) rfl rfl rfl ?_
  refine J.y ((op_sslice (a := lb) (l := 0) (h := (min lb.length 50)) Tryz.underlying9 rfl rfl rfl rfl ⟨by first | omega | (simp only [List.length_append, List.length_cons, List.length_nil, List.length_take, List.length_drop] at *; omega), by first | omega | (simp only [List.length_append, List.length_cons, List.length_nil, List.length_take, List.length_drop] at *; omega)⟩).as (v' := Str (lb.take (min lb.length 50))) (congrArg Str List.drop_zero)) rfl rfl rfl ?_
  refine J.y (op_assign rfl rfl) rfl rfl rfl ?_
  refine J.nil ?_
  refine J.then_n (J.k hK4 ?_)
  refine J.keepE [(0, _), (1, _), (2, _)] ⟨rfl, rfl, rfl, trivial⟩ ?_
  refine J.seq (fun K5 hK5 => ?_)
  obtain ⟨s, hs⟩ : ∃ s, s = lb.take (min lb.length 50) := ⟨_, rfl⟩
  rw [← hs]
  have hsl : s.length ≤ 50 := by rw [hs, List.length_take]; omega
  refine J.region ?_
  refine J.e (op_call rfl rfl ent5 (Ct.use (new := fun x : Nat × Hp => [x.2]) (fun F' hF => xnewK_ct F' (hK.mono (hF F (by simp))) [97] 0 (by decide) (by decide)))) rfl rfl rfl ?_
  rintro ⟨g30, m30⟩ h30
  try dsimp only at h30
  change J _ ((30, .tuple #[Ptr g30, I 0]) :: _) _ [F, m30] _
  refine J.y (op_move rfl rfl) rfl rfl rfl ?_
  refine J.y (op_extract (v := Ptr g30) rfl rfl rfl) rfl rfl rfl ?_
  refine J.y (op_extract (v := I ((0 : Nat) : Int)) rfl rfl rfl) rfl rfl rfl ?_
  refine J.y (op_assign rfl rfl) rfl rfl rfl ?_
  refine J.y (op_assign rfl rfl) rfl rfl rfl ?_
  refine J.nil ?_
  refine J.then_n (J.k hK5 ?_)
  refine J.keepE [(0, _), (1, _), (2, _), (7, _)] ⟨rfl, rfl, rfl, rfl, trivial⟩ ?_
  refine J.seq (fun K6 hK6 => ?_)
  refine J.region ?_
  refine J.y (op_move rfl rfl) rfl rfl rfl ?_
  refine J.y ((op_cv_u32_u64 rfl rfl Tryz.underlying22 Tryz.underlying29).as (v' := N64 (ver.toNat)) (by show Value.int .u64 _ = Value.int .u64 _; rw [UInt32.toNat_toUInt64])) rfl rfl rfl ?_
  refine J.y (op_move rfl rfl) rfl rfl rfl ?_
  refine J.e (op_call rfl rfl ent6 (Ct.use0 (fun F' hF => xpubK_ct F' g30 ([97]) 0 (h30.mono (hF m30 (by simp)))))) rfl rfl rfl ?_
  intro g36 _
  refine J.y (op_buildStruct (l := [(0, .tmp 34), (1, .tmp 36), (2, .const ((Value.string (ByteArray.mk #[0, 0, 0, 0, 0, 0, 0, 0, 0, 0, 0, 0, 0, 0, 0, 0]))))]) (vs := [N64 (ver.toNat), .agg #[Str (Wo.opn (([97]))), Str (Xm.root (([97])) (0)), I ((0 : Nat) : Int)], Str ([0, 0, 0, 0, 0, 0, 0, 0, 0, 0, 0, 0, 0, 0, 0, 0])]) (places := [(0, 1), (1, 3), (4, 1)]) (r := [N64 (ver.toNat), Str (Wo.opn (([97]))), Str (Xm.root (([97])) (0)), I ((0 : Nat) : Int), Str ([0, 0, 0, 0, 0, 0, 0, 0, 0, 0, 0, 0, 0, 0, 0, 0])]) rfl rfl rfl Tryz.underlying34 Tryz.zeroValue34 (fun _ => by kernel_rfl) rfl) rfl rfl rfl ?_
  refine J.e (op_alloc (l := [.int .u64 0, Str [], Str [], I 0, Str []]) rfl Tryz.zeroValue34 rfl) rfl rfl rfl ?_
  intro g9 _
  change J _ _ _ [F, m30, blk g9 [.int .u64 0, Str [], Str [], I 0, Str []] 34] _
  refine J.s (op_storeAll (i := 2) (l := [.int .u64 0, Str [], Str [], I 0, Str []]) (vs := [N64 (ver.toNat), Str (Wo.opn (([97]))), Str (Xm.root (([97])) (0)), I ((0 : Nat) : Int), Str ([0, 0, 0, 0, 0, 0, 0, 0, 0, 0, 0, 0, 0, 0, 0, 0])]) rfl rfl rfl rfl rfl Tryz.sizeOf34 rfl rfl) rfl rfl (fun _ _ => ?_)
  change J _ _ _ [F, m30, blk g9 [N64 (ver.toNat), Str (Wo.opn (([97]))), Str (Xm.root (([97])) (0)), I ((0 : Nat) : Int), Str ([0, 0, 0, 0, 0, 0, 0, 0, 0, 0, 0, 0, 0, 0, 0, 0])] 34] _
  refine J.nil ?_
  refine J.then_n (J.k hK6 ?_)
  refine J.keepE [(0, _), (1, _), (2, _), (7, _), (9, _)] ⟨rfl, rfl, rfl, rfl, rfl, trivial⟩ ?_
  refine J.seq (fun K7 hK7 => ?_)
  refine J.region ?_
  refine J.y (op_move rfl rfl) rfl rfl rfl ?_
  refine J.y (op_move rfl rfl) rfl rfl rfl ?_
  refine J.y (op_loadBA 2 rfl rfl rfl Tryz.isAgg34 Tryz.sizeOf34 rfl) rfl rfl rfl ?_
  refine J.e (op_call rfl rfl ent7 (Ct.use (new := fun x : (Option Addr × Nat × Hp) × (Option Addr × Nat × Hp) => [x.1.2.2, x.2.2.2]) (fun F' hF => psign_ct F' (hK.mono (hF F (by simp))) g30 [97] 0 (h30.mono (hF m30 (by simp))) (by decide) (by decide) 0 (by decide) s (by first | decide | omega) ver.toNat (Wo.opn ([97])) (Xm.root ([97]) (0)) ((0 : Nat) : Int) [0, 0, 0, 0, 0, 0, 0, 0, 0, 0, 0, 0, 0, 0, 0, 0] hE))) rfl rfl rfl ?_
  rintro ⟨⟨A42, c42, m42⟩, ⟨B42, d42, n42⟩⟩ ⟨h42, k42⟩
  change J _ ((42, .tuple #[.agg #[Str (s), N64 (ver.toNat), Str ((Wo.opn ([97]))), Str ((Xm.root ([97]) (0))), I (((0 : Nat) : Int)), Str ([0, 0, 0, 0, 0, 0, 0, 0, 0, 0, 0, 0, 0, 0, 0, 0]), I ((0 : Nat) : Int), .slice A42 (sgC [97] 0 (pmsg s ver.toNat (Wo.opn ([97])) (Xm.root ([97]) (0)) ((0 : Nat) : Int) [0, 0, 0, 0, 0, 0, 0, 0, 0, 0, 0, 0, 0, 0, 0, 0])).length c42, .slice B42 (sgP [97] 0 0).length d42], I ((0 : Nat) : Int)]) :: _) _ [F, m30, blk g9 [N64 (ver.toNat), Str (Wo.opn (([97]))), Str (Xm.root (([97])) (0)), I ((0 : Nat) : Int), Str ([0, 0, 0, 0, 0, 0, 0, 0, 0, 0, 0, 0, 0, 0, 0, 0])] 34, m42, n42] _
  refine J.y (op_move rfl rfl) rfl rfl rfl ?_
  refine J.y (op_extract (v := .agg #[Str (s), N64 (ver.toNat), Str ((Wo.opn ([97]))), Str ((Xm.root ([97]) (0))), I (((0 : Nat) : Int)), Str ([0, 0, 0, 0, 0, 0, 0, 0, 0, 0, 0, 0, 0, 0, 0, 0]), I ((0 : Nat) : Int), .slice A42 ((sgC [97] 0 (pmsg s ver.toNat (Wo.opn ([97])) (Xm.root ([97]) (0)) ((0 : Nat) : Int) [0, 0, 0, 0, 0, 0, 0, 0, 0, 0, 0, 0, 0, 0, 0, 0])).length) c42, .slice B42 ((sgP [97] 0 0).length) d42]) rfl rfl rfl) rfl rfl rfl ?_
  refine J.y (op_extract (v := I ((0 : Nat) : Int)) rfl rfl rfl) rfl rfl rfl ?_
  refine J.e (op_alloc (l := [Str [], .int .u64 0, Str [], Str [], I 0, Str [], I 0, .slice none 0 0, .slice none 0 0]) rfl Tryz.zeroValue39 rfl) rfl rfl rfl ?_
  intro g10 _
  change J _ _ _ [F, m30, blk g9 [N64 (ver.toNat), Str (Wo.opn (([97]))), Str (Xm.root (([97])) (0)), I ((0 : Nat) : Int), Str ([0, 0, 0, 0, 0, 0, 0, 0, 0, 0, 0, 0, 0, 0, 0, 0])] 34, m42, n42, blk g10 [Str [], .int .u64 0, Str [], Str [], I 0, Str [], I 0, .slice none 0 0, .slice none 0 0] 39] _
  refine J.s (op_storeAll (i := 5) (l := [Str [], .int .u64 0, Str [], Str [], I 0, Str [], I 0, .slice none 0 0, .slice none 0 0]) (vs := [Str (s), N64 (ver.toNat), Str ((Wo.opn ([97]))), Str ((Xm.root ([97]) (0))), I (((0 : Nat) : Int)), Str ([0, 0, 0, 0, 0, 0, 0, 0, 0, 0, 0, 0, 0, 0, 0, 0]), I ((0 : Nat) : Int), .slice A42 ((sgC [97] 0 (pmsg s ver.toNat (Wo.opn ([97])) (Xm.root ([97]) (0)) ((0 : Nat) : Int) [0, 0, 0, 0, 0, 0, 0, 0, 0, 0, 0, 0, 0, 0, 0, 0])).length) c42, .slice B42 ((sgP [97] 0 0).length) d42]) rfl rfl rfl rfl rfl Tryz.sizeOf39 rfl rfl) rfl rfl (fun _ _ => ?_)
  change J _ _ _ [F, m30, blk g9 [N64 (ver.toNat), Str (Wo.opn (([97]))), Str (Xm.root (([97])) (0)), I ((0 : Nat) : Int), Str ([0, 0, 0, 0, 0, 0, 0, 0, 0, 0, 0, 0, 0, 0, 0, 0])] 34, m42, n42, blk g10 [Str (s), N64 (ver.toNat), Str ((Wo.opn ([97]))), Str ((Xm.root ([97]) (0))), I (((0 : Nat) : Int)), Str ([0, 0, 0, 0, 0, 0, 0, 0, 0, 0, 0, 0, 0, 0, 0, 0]), I ((0 : Nat) : Int), .slice A42 ((sgC [97] 0 (pmsg s ver.toNat (Wo.opn ([97])) (Xm.root ([97]) (0)) ((0 : Nat) : Int) [0, 0, 0, 0, 0, 0, 0, 0, 0, 0, 0, 0, 0, 0, 0, 0])).length) c42, .slice B42 ((sgP [97] 0 0).length) d42] 39] _
  refine J.y (op_assign rfl rfl) rfl rfl rfl ?_
  refine J.nil ?_
  refine J.then_n (J.k hK7 ?_)
  refine J.keepE [(0, _), (1, _), (2, _), (7, _), (9, _), (10, _), (11, _)] ⟨rfl, rfl, rfl, rfl, rfl, rfl, rfl, trivial⟩ ?_
  refine J.seq (fun K8 hK8 => ?_)
  refine J.seq (fun K9 hK9 => ?_)
  refine J.region ?_
  refine J.y (op_move rfl rfl) rfl rfl rfl ?_
  refine J.y ((op_eql rfl rfl rfl).as (v' := .bool false) (congrArg Value.bool (decide_eq_false (by omega)))) rfl rfl rfl ?_
  refine J.nil ?_
  refine J.then_n (J.k hK9 ?_)
  refine J.keepE [(0, _), (2, _), (7, _), (9, _), (10, _), (11, _), (46, _)] ⟨rfl, rfl, rfl, rfl, rfl, rfl, rfl, trivial⟩ ?_
  refine J.condF rfl rfl ?_
  refine J.skip ?_
  refine J.then_n (J.k hK8 ?_)
  refine J.keepE [(0, _), (2, _), (7, _), (9, _), (10, _), (11, _)] ⟨rfl, rfl, rfl, rfl, rfl, rfl, trivial⟩ ?_
  refine J.seq (fun K10 hK10 => ?_)
  refine J.region ?_
  refine J.y (op_loadBA 5 rfl rfl rfl Tryz.isAgg39 Tryz.sizeOf39 rfl) rfl rfl rfl ?_
  refine J.e (op_call rfl rfl ent9 (Ct.use0 (fun F' hF => penc18_ct F' s (by omega) ver.toNat (Wo.opn ([97])) (Xm.root ([97]) (0)) ((0 : Nat) : Int) [0, 0, 0, 0, 0, 0, 0, 0, 0, 0, 0, 0, 0, 0, 0, 0] hE 0 A42 _ c42 (sgC [97] 0 (pmsg s ver.toNat (Wo.opn ([97])) (Xm.root ([97]) (0)) ((0 : Nat) : Int) [0, 0, 0, 0, 0, 0, 0, 0, 0, 0, 0, 0, 0, 0, 0, 0])) (h42.sl.mono (hF m42 (by simp))) B42 _ d42 (sgP [97] 0 0) (k42.sl.mono (hF n42 (by simp))) (by decide) (sgC_len _ _ _) (by rw [sgP_len]; decide) (sgC_16 _ _ _) (sgP_16 _ (by decide))))) rfl rfl rfl ?_
  intro g57 _
  refine J.y (op_move rfl rfl) rfl rfl rfl ?_
  refine J.y (op_extract (v := Str ((upB s (enEnc ver.toNat (Wo.opn ([97])) (Xm.root ([97]) (0)) ((0 : Nat) : Int) [0, 0, 0, 0, 0, 0, 0, 0, 0, 0, 0, 0, 0, 0, 0, 0]) (sgB 0 (sgC [97] 0 (pmsg s ver.toNat (Wo.opn ([97])) (Xm.root ([97]) (0)) ((0 : Nat) : Int) [0, 0, 0, 0, 0, 0, 0, 0, 0, 0, 0, 0, 0, 0, 0, 0])) (sgP [97] 0 0))))) rfl rfl rfl) rfl rfl rfl ?_
  refine J.y (op_extract (v := I ((0 : Nat) : Int)) rfl rfl rfl) rfl rfl rfl ?_
  refine J.y (op_assign rfl rfl) rfl rfl rfl ?_
  refine J.y (op_assign rfl rfl) rfl rfl rfl ?_
  refine J.nil ?_
  refine J.then_n (J.k hK10 ?_)
  refine J.keepE [(0, _), (2, _), (7, _), (9, _), (11, _), (12, _), (13, _)] ⟨rfl, rfl, rfl, rfl, rfl, rfl, rfl, trivial⟩ ?_
  refine J.seq (fun K11 hK11 => ?_)
  obtain ⟨t, ht⟩ : ∃ t, t = (upB s (enEnc ver.toNat (Wo.opn ([97])) (Xm.root ([97]) (0)) ((0 : Nat) : Int) [0, 0, 0, 0, 0, 0, 0, 0, 0, 0, 0, 0, 0, 0, 0, 0]) (sgB 0 (sgC [97] 0 (pmsg s ver.toNat (Wo.opn ([97])) (Xm.root ([97]) (0)) ((0 : Nat) : Int) [0, 0, 0, 0, 0, 0, 0, 0, 0, 0, 0, 0, 0, 0, 0, 0])) (sgP [97] 0 0))) := ⟨_, rfl⟩
  rw [← ht]
  have hel := enEnc_len hE
  have hsg : (sgB 0 (sgC [97] 0 (pmsg s ver.toNat (Wo.opn ([97])) (Xm.root ([97]) (0)) ((0 : Nat) : Int) [0, 0, 0, 0, 0, 0, 0, 0, 0, 0, 0, 0, 0, 0, 0, 0])) (sgP [97] 0 0)).length = 562 + 16 * (sgP [97] 0 0).length := sgB_len (sgC_16 _ _ _) (sgP_16 _ (by decide)) (sgC_len _ _ _)
  have hpl : (sgP [97] 0 0).length = 0 := sgP_len _ _ _
  have htl : t.length = _ := (congrArg List.length ht).trans (upB_len _ _ _)
  have hmod : cx % t.length < t.length := Nat.mod_lt _ (by omega)
  have hml := pmsg_len s ver.toNat (Wo.opn ([97])) (Xm.root ([97]) (0)) ((0 : Nat) : Int) [0, 0, 0, 0, 0, 0, 0, 0, 0, 0, 0, 0, 0, 0, 0, 0]
  obtain ⟨hl1, hl2, hl3, hl4⟩ := upB_fwd (a := s) (b := enEnc ver.toNat (Wo.opn ([97])) (Xm.root ([97]) (0)) ((0 : Nat) : Int) [0, 0, 0, 0, 0, 0, 0, 0, 0, 0, 0, 0, 0, 0, 0, 0]) (c := sgB 0 (sgC [97] 0 (pmsg s ver.toNat (Wo.opn ([97])) (Xm.root ([97]) (0)) ((0 : Nat) : Int) [0, 0, 0, 0, 0, 0, 0, 0, 0, 0, 0, 0, 0, 0, 0, 0])) (sgP [97] 0 0)) (by omega) (by omega) (by omega)
  rw [← ht] at hl1 hl2 hl3 hl4
  have hq3 : (u3 (t.take (cx % t.length))).last = 3 := by
    have hm : cx % t.length < t.length := Nat.mod_lt _ (by omega)
    rw [ht] at hm ⊢
    exact upB_cut (by omega) (by omega) (by omega) hm
  have hq2 : (u3 (t ++ [120])).last = 2 := by
    rw [ht]; exact upB_more (by omega) (by omega) (by omega)
  refine J.region ?_
  refine J.y (op_move rfl rfl) rfl rfl rfl ?_
  refine J.e (op_call rfl rfl ent10 (Ct.use (new := fun x : (Option Addr × Nat × Hp) × (Option Addr × Nat × Hp) => [x.1.2.2, x.2.2.2]) (fun F' hF => pdec18_ct F' t s ver.toNat (Wo.opn ([97])) (Xm.root ([97]) (0)) ((0 : Nat) : Int) [0, 0, 0, 0, 0, 0, 0, 0, 0, 0, 0, 0, 0, 0, 0, 0] hE 0 (sgC [97] 0 (pmsg s ver.toNat (Wo.opn ([97])) (Xm.root ([97]) (0)) ((0 : Nat) : Int) [0, 0, 0, 0, 0, 0, 0, 0, 0, 0, 0, 0, 0, 0, 0, 0])) (sgP [97] 0 0) (by decide) (sgC_len _ _ _) (by rw [sgP_len]; decide) (sgC_16 _ _ _) (sgP_16 _ (by decide)) hl1 hl2 hl3 hl4))) rfl rfl rfl ?_
  rintro ⟨⟨A62, c62, m62⟩, ⟨B62, d62, n62⟩⟩ ⟨h62, k62⟩
  change J _ ((62, .tuple #[.agg #[Str (s), N64 (ver.toNat), Str ((Wo.opn ([97]))), Str ((Xm.root ([97]) (0))), I (((0 : Nat) : Int)), Str ([0, 0, 0, 0, 0, 0, 0, 0, 0, 0, 0, 0, 0, 0, 0, 0]), I ((0 : Nat) : Int), .slice A62 (sgC [97] 0 (pmsg s ver.toNat (Wo.opn ([97])) (Xm.root ([97]) (0)) ((0 : Nat) : Int) [0, 0, 0, 0, 0, 0, 0, 0, 0, 0, 0, 0, 0, 0, 0, 0])).length c62, .slice B62 (sgP [97] 0 0).length d62], I ((0 : Nat) : Int)]) :: _) _ [F, m30, blk g9 [N64 (ver.toNat), Str (Wo.opn (([97]))), Str (Xm.root (([97])) (0)), I ((0 : Nat) : Int), Str ([0, 0, 0, 0, 0, 0, 0, 0, 0, 0, 0, 0, 0, 0, 0, 0])] 34, m42, n42, blk g10 [Str (s), N64 (ver.toNat), Str ((Wo.opn ([97]))), Str ((Xm.root ([97]) (0))), I (((0 : Nat) : Int)), Str ([0, 0, 0, 0, 0, 0, 0, 0, 0, 0, 0, 0, 0, 0, 0, 0]), I ((0 : Nat) : Int), .slice A42 ((sgC [97] 0 (pmsg s ver.toNat (Wo.opn ([97])) (Xm.root ([97]) (0)) ((0 : Nat) : Int) [0, 0, 0, 0, 0, 0, 0, 0, 0, 0, 0, 0, 0, 0, 0, 0])).length) c42, .slice B42 ((sgP [97] 0 0).length) d42] 39, m62, n62] _
  refine J.y (op_move rfl rfl) rfl rfl rfl ?_
  refine J.y (op_extract (v := .agg #[Str (s), N64 (ver.toNat), Str ((Wo.opn ([97]))), Str ((Xm.root ([97]) (0))), I (((0 : Nat) : Int)), Str ([0, 0, 0, 0, 0, 0, 0, 0, 0, 0, 0, 0, 0, 0, 0, 0]), I ((0 : Nat) : Int), .slice A62 ((sgC [97] 0 (pmsg s ver.toNat (Wo.opn ([97])) (Xm.root ([97]) (0)) ((0 : Nat) : Int) [0, 0, 0, 0, 0, 0, 0, 0, 0, 0, 0, 0, 0, 0, 0, 0])).length) c62, .slice B62 ((sgP [97] 0 0).length) d62]) rfl rfl rfl) rfl rfl rfl ?_
  refine J.y (op_extract (v := I ((0 : Nat) : Int)) rfl rfl rfl) rfl rfl rfl ?_
  refine J.e (op_alloc (l := [Str [], .int .u64 0, Str [], Str [], I 0, Str [], I 0, .slice none 0 0, .slice none 0 0]) rfl Tryz.zeroValue39 rfl) rfl rfl rfl ?_
  intro g14 _
  change J _ _ _ [F, m30, blk g9 [N64 (ver.toNat), Str (Wo.opn (([97]))), Str (Xm.root (([97])) (0)), I ((0 : Nat) : Int), Str ([0, 0, 0, 0, 0, 0, 0, 0, 0, 0, 0, 0, 0, 0, 0, 0])] 34, m42, n42, blk g10 [Str (s), N64 (ver.toNat), Str ((Wo.opn ([97]))), Str ((Xm.root ([97]) (0))), I (((0 : Nat) : Int)), Str ([0, 0, 0, 0, 0, 0, 0, 0, 0, 0, 0, 0, 0, 0, 0, 0]), I ((0 : Nat) : Int), .slice A42 ((sgC [97] 0 (pmsg s ver.toNat (Wo.opn ([97])) (Xm.root ([97]) (0)) ((0 : Nat) : Int) [0, 0, 0, 0, 0, 0, 0, 0, 0, 0, 0, 0, 0, 0, 0, 0])).length) c42, .slice B42 ((sgP [97] 0 0).length) d42] 39, m62, n62, blk g14 [Str [], .int .u64 0, Str [], Str [], I 0, Str [], I 0, .slice none 0 0, .slice none 0 0] 39] _
  refine J.s (op_storeAll (i := 8) (l := [Str [], .int .u64 0, Str [], Str [], I 0, Str [], I 0, .slice none 0 0, .slice none 0 0]) (vs := [Str (s), N64 (ver.toNat), Str ((Wo.opn ([97]))), Str ((Xm.root ([97]) (0))), I (((0 : Nat) : Int)), Str ([0, 0, 0, 0, 0, 0, 0, 0, 0, 0, 0, 0, 0, 0, 0, 0]), I ((0 : Nat) : Int), .slice A62 ((sgC [97] 0 (pmsg s ver.toNat (Wo.opn ([97])) (Xm.root ([97]) (0)) ((0 : Nat) : Int) [0, 0, 0, 0, 0, 0, 0, 0, 0, 0, 0, 0, 0, 0, 0, 0])).length) c62, .slice B62 ((sgP [97] 0 0).length) d62]) rfl rfl rfl rfl rfl Tryz.sizeOf39 rfl rfl) rfl rfl (fun _ _ => ?_)
  change J _ _ _ [F, m30, blk g9 [N64 (ver.toNat), Str (Wo.opn (([97]))), Str (Xm.root (([97])) (0)), I ((0 : Nat) : Int), Str ([0, 0, 0, 0, 0, 0, 0, 0, 0, 0, 0, 0, 0, 0, 0, 0])] 34, m42, n42, blk g10 [Str (s), N64 (ver.toNat), Str ((Wo.opn ([97]))), Str ((Xm.root ([97]) (0))), I (((0 : Nat) : Int)), Str ([0, 0, 0, 0, 0, 0, 0, 0, 0, 0, 0, 0, 0, 0, 0, 0]), I ((0 : Nat) : Int), .slice A42 ((sgC [97] 0 (pmsg s ver.toNat (Wo.opn ([97])) (Xm.root ([97]) (0)) ((0 : Nat) : Int) [0, 0, 0, 0, 0, 0, 0, 0, 0, 0, 0, 0, 0, 0, 0, 0])).length) c42, .slice B42 ((sgP [97] 0 0).length) d42] 39, m62, n62, blk g14 [Str (s), N64 (ver.toNat), Str ((Wo.opn ([97]))), Str ((Xm.root ([97]) (0))), I (((0 : Nat) : Int)), Str ([0, 0, 0, 0, 0, 0, 0, 0, 0, 0, 0, 0, 0, 0, 0, 0]), I ((0 : Nat) : Int), .slice A62 ((sgC [97] 0 (pmsg s ver.toNat (Wo.opn ([97])) (Xm.root ([97]) (0)) ((0 : Nat) : Int) [0, 0, 0, 0, 0, 0, 0, 0, 0, 0, 0, 0, 0, 0, 0, 0])).length) c62, .slice B62 ((sgP [97] 0 0).length) d62] 39] _
  refine J.y (op_assign rfl rfl) rfl rfl rfl ?_
  refine J.nil ?_
  refine J.then_n (J.k hK11 ?_)
  refine J.keepE [(0, _), (2, _), (7, _), (9, _), (11, _), (12, _), (13, _), (14, _), (15, _)] ⟨rfl, rfl, rfl, rfl, rfl, rfl, rfl, rfl, rfl, trivial⟩ ?_
  refine J.seq (fun K12 hK12 => ?_)
  refine J.region ?_
  refine J.y (op_move rfl rfl) rfl rfl rfl ?_
  refine J.y (op_move rfl rfl) rfl rfl rfl ?_
  refine J.y ((op_cvt rfl rfl Tryz.underlying23 Tryz.underlying3 (wrap64_of (by omega)) : YOp _ _ _ _ (I ((cx : Nat) : Int)))) rfl rfl rfl ?_
  refine J.y (op_move rfl rfl) rfl rfl rfl ?_
  refine J.y (op_slen Tryz.underlying9 rfl rfl) rfl rfl rfl ?_
  refine J.y ((op_rem rfl rfl rfl (by first | omega | (simp only [List.length_append, List.length_cons, List.length_nil, List.length_take, List.length_drop] at *; omega))).as (v' := I ((cx % t.length : Nat) : Int)) (congrArg I (by omega))) rfl rfl rfl ?_
  refine J.y ((op_sslice (a := t) (l := 0) (h := (cx % t.length)) Tryz.underlying9 rfl rfl rfl rfl ⟨by first | omega | (simp only [List.length_append, List.length_cons, List.length_nil, List.length_take, List.length_drop] at *; omega), by first | omega | (simp only [List.length_append, List.length_cons, List.length_nil, List.length_take, List.length_drop] at *; omega)⟩).as (v' := Str (t.take (cx % t.length))) (congrArg Str List.drop_zero)) rfl rfl rfl ?_
  refine J.e (op_call rfl rfl ent10 (Ct.use0 (fun F' hF => pdec18E_ct F' (t.take (cx % t.length)) (by rw [hq3]; decide)))) rfl rfl rfl ?_
  intro g73 _
  refine J.y (op_move rfl rfl) rfl rfl rfl ?_
  refine J.y (op_extract (v := .agg #[Str [], N64 (0), Str [], Str [], I ((0 : Nat) : Int), Str [], I ((0 : Nat) : Int), .slice none 0 0, .slice none 0 0]) rfl rfl rfl) rfl rfl rfl ?_
  refine J.y (op_extract (v := I ((u3 (t.take (cx % t.length))).last)) rfl rfl rfl) rfl rfl rfl ?_
  refine J.e (op_alloc (l := [Str [], .int .u64 0, Str [], Str [], I 0, Str [], I 0, .slice none 0 0, .slice none 0 0]) rfl Tryz.zeroValue39 rfl) rfl rfl rfl ?_
  intro g16 _
  change J _ _ _ [F, m30, blk g9 [N64 (ver.toNat), Str (Wo.opn (([97]))), Str (Xm.root (([97])) (0)), I ((0 : Nat) : Int), Str ([0, 0, 0, 0, 0, 0, 0, 0, 0, 0, 0, 0, 0, 0, 0, 0])] 34, m42, n42, blk g10 [Str (s), N64 (ver.toNat), Str ((Wo.opn ([97]))), Str ((Xm.root ([97]) (0))), I (((0 : Nat) : Int)), Str ([0, 0, 0, 0, 0, 0, 0, 0, 0, 0, 0, 0, 0, 0, 0, 0]), I ((0 : Nat) : Int), .slice A42 ((sgC [97] 0 (pmsg s ver.toNat (Wo.opn ([97])) (Xm.root ([97]) (0)) ((0 : Nat) : Int) [0, 0, 0, 0, 0, 0, 0, 0, 0, 0, 0, 0, 0, 0, 0, 0])).length) c42, .slice B42 ((sgP [97] 0 0).length) d42] 39, m62, n62, blk g14 [Str (s), N64 (ver.toNat), Str ((Wo.opn ([97]))), Str ((Xm.root ([97]) (0))), I (((0 : Nat) : Int)), Str ([0, 0, 0, 0, 0, 0, 0, 0, 0, 0, 0, 0, 0, 0, 0, 0]), I ((0 : Nat) : Int), .slice A62 ((sgC [97] 0 (pmsg s ver.toNat (Wo.opn ([97])) (Xm.root ([97]) (0)) ((0 : Nat) : Int) [0, 0, 0, 0, 0, 0, 0, 0, 0, 0, 0, 0, 0, 0, 0, 0])).length) c62, .slice B62 ((sgP [97] 0 0).length) d62] 39, blk g16 [Str [], .int .u64 0, Str [], Str [], I 0, Str [], I 0, .slice none 0 0, .slice none 0 0] 39] _
  refine J.s (op_storeAll (i := 9) (l := [Str [], .int .u64 0, Str [], Str [], I 0, Str [], I 0, .slice none 0 0, .slice none 0 0]) (vs := [Str [], N64 (0), Str [], Str [], I ((0 : Nat) : Int), Str [], I ((0 : Nat) : Int), .slice none 0 0, .slice none 0 0]) rfl rfl rfl rfl rfl Tryz.sizeOf39 rfl rfl) rfl rfl (fun _ _ => ?_)
  change J _ _ _ [F, m30, blk g9 [N64 (ver.toNat), Str (Wo.opn (([97]))), Str (Xm.root (([97])) (0)), I ((0 : Nat) : Int), Str ([0, 0, 0, 0, 0, 0, 0, 0, 0, 0, 0, 0, 0, 0, 0, 0])] 34, m42, n42, blk g10 [Str (s), N64 (ver.toNat), Str ((Wo.opn ([97]))), Str ((Xm.root ([97]) (0))), I (((0 : Nat) : Int)), Str ([0, 0, 0, 0, 0, 0, 0, 0, 0, 0, 0, 0, 0, 0, 0, 0]), I ((0 : Nat) : Int), .slice A42 ((sgC [97] 0 (pmsg s ver.toNat (Wo.opn ([97])) (Xm.root ([97]) (0)) ((0 : Nat) : Int) [0, 0, 0, 0, 0, 0, 0, 0, 0, 0, 0, 0, 0, 0, 0, 0])).length) c42, .slice B42 ((sgP [97] 0 0).length) d42] 39, m62, n62, blk g14 [Str (s), N64 (ver.toNat), Str ((Wo.opn ([97]))), Str ((Xm.root ([97]) (0))), I (((0 : Nat) : Int)), Str ([0, 0, 0, 0, 0, 0, 0, 0, 0, 0, 0, 0, 0, 0, 0, 0]), I ((0 : Nat) : Int), .slice A62 ((sgC [97] 0 (pmsg s ver.toNat (Wo.opn ([97])) (Xm.root ([97]) (0)) ((0 : Nat) : Int) [0, 0, 0, 0, 0, 0, 0, 0, 0, 0, 0, 0, 0, 0, 0, 0])).length) c62, .slice B62 ((sgP [97] 0 0).length) d62] 39, blk g16 [Str [], N64 (0), Str [], Str [], I ((0 : Nat) : Int), Str [], I ((0 : Nat) : Int), .slice none 0 0, .slice none 0 0] 39] _
  refine J.y (op_assign rfl rfl) rfl rfl rfl ?_
  refine J.nil ?_
  refine J.then_n (J.k hK12 ?_)
  refine J.keepE [(0, _), (7, _), (9, _), (11, _), (12, _), (13, _), (14, _), (15, _), (17, _)] ⟨rfl, rfl, rfl, rfl, rfl, rfl, rfl, rfl, rfl, trivial⟩ ?_
  refine J.seq (fun K13 hK13 => ?_)
  refine J.region ?_
  refine J.y (op_move rfl rfl) rfl rfl rfl ?_
  refine J.y (op_sadd (a := t) (b := [120]) rfl rfl rfl (by first | omega | (simp only [List.length_append, List.length_cons, List.length_nil, List.length_take, List.length_drop] at *; omega))) rfl rfl rfl ?_
  refine J.e (op_call rfl rfl ent10 (Ct.use0 (fun F' hF => pdec18E_ct F' (t ++ [120]) (by rw [hq2]; decide)))) rfl rfl rfl ?_
  intro g79 _
  refine J.y (op_move rfl rfl) rfl rfl rfl ?_
  refine J.y (op_extract (v := .agg #[Str [], N64 (0), Str [], Str [], I ((0 : Nat) : Int), Str [], I ((0 : Nat) : Int), .slice none 0 0, .slice none 0 0]) rfl rfl rfl) rfl rfl rfl ?_
  refine J.y (op_extract (v := I ((u3 (t ++ [120])).last)) rfl rfl rfl) rfl rfl rfl ?_
  refine J.e (op_alloc (l := [Str [], .int .u64 0, Str [], Str [], I 0, Str [], I 0, .slice none 0 0, .slice none 0 0]) rfl Tryz.zeroValue39 rfl) rfl rfl rfl ?_
  intro g18 _
  change J _ _ _ [F, m30, blk g9 [N64 (ver.toNat), Str (Wo.opn (([97]))), Str (Xm.root (([97])) (0)), I ((0 : Nat) : Int), Str ([0, 0, 0, 0, 0, 0, 0, 0, 0, 0, 0, 0, 0, 0, 0, 0])] 34, m42, n42, blk g10 [Str (s), N64 (ver.toNat), Str ((Wo.opn ([97]))), Str ((Xm.root ([97]) (0))), I (((0 : Nat) : Int)), Str ([0, 0, 0, 0, 0, 0, 0, 0, 0, 0, 0, 0, 0, 0, 0, 0]), I ((0 : Nat) : Int), .slice A42 ((sgC [97] 0 (pmsg s ver.toNat (Wo.opn ([97])) (Xm.root ([97]) (0)) ((0 : Nat) : Int) [0, 0, 0, 0, 0, 0, 0, 0, 0, 0, 0, 0, 0, 0, 0, 0])).length) c42, .slice B42 ((sgP [97] 0 0).length) d42] 39, m62, n62, blk g14 [Str (s), N64 (ver.toNat), Str ((Wo.opn ([97]))), Str ((Xm.root ([97]) (0))), I (((0 : Nat) : Int)), Str ([0, 0, 0, 0, 0, 0, 0, 0, 0, 0, 0, 0, 0, 0, 0, 0]), I ((0 : Nat) : Int), .slice A62 ((sgC [97] 0 (pmsg s ver.toNat (Wo.opn ([97])) (Xm.root ([97]) (0)) ((0 : Nat) : Int) [0, 0, 0, 0, 0, 0, 0, 0, 0, 0, 0, 0, 0, 0, 0, 0])).length) c62, .slice B62 ((sgP [97] 0 0).length) d62] 39, blk g16 [Str [], N64 (0), Str [], Str [], I ((0 : Nat) : Int), Str [], I ((0 : Nat) : Int), .slice none 0 0, .slice none 0 0] 39, blk g18 [Str [], .int .u64 0, Str [], Str [], I 0, Str [], I 0, .slice none 0 0, .slice none 0 0] 39] _
  refine J.s (op_storeAll (i := 10) (l := [Str [], .int .u64 0, Str [], Str [], I 0, Str [], I 0, .slice none 0 0, .slice none 0 0]) (vs := [Str [], N64 (0), Str [], Str [], I ((0 : Nat) : Int), Str [], I ((0 : Nat) : Int), .slice none 0 0, .slice none 0 0]) rfl rfl rfl rfl rfl Tryz.sizeOf39 rfl rfl) rfl rfl (fun _ _ => ?_)
  change J _ _ _ [F, m30, blk g9 [N64 (ver.toNat), Str (Wo.opn (([97]))), Str (Xm.root (([97])) (0)), I ((0 : Nat) : Int), Str ([0, 0, 0, 0, 0, 0, 0, 0, 0, 0, 0, 0, 0, 0, 0, 0])] 34, m42, n42, blk g10 [Str (s), N64 (ver.toNat), Str ((Wo.opn ([97]))), Str ((Xm.root ([97]) (0))), I (((0 : Nat) : Int)), Str ([0, 0, 0, 0, 0, 0, 0, 0, 0, 0, 0, 0, 0, 0, 0, 0]), I ((0 : Nat) : Int), .slice A42 ((sgC [97] 0 (pmsg s ver.toNat (Wo.opn ([97])) (Xm.root ([97]) (0)) ((0 : Nat) : Int) [0, 0, 0, 0, 0, 0, 0, 0, 0, 0, 0, 0, 0, 0, 0, 0])).length) c42, .slice B42 ((sgP [97] 0 0).length) d42] 39, m62, n62, blk g14 [Str (s), N64 (ver.toNat), Str ((Wo.opn ([97]))), Str ((Xm.root ([97]) (0))), I (((0 : Nat) : Int)), Str ([0, 0, 0, 0, 0, 0, 0, 0, 0, 0, 0, 0, 0, 0, 0, 0]), I ((0 : Nat) : Int), .slice A62 ((sgC [97] 0 (pmsg s ver.toNat (Wo.opn ([97])) (Xm.root ([97]) (0)) ((0 : Nat) : Int) [0, 0, 0, 0, 0, 0, 0, 0, 0, 0, 0, 0, 0, 0, 0, 0])).length) c62, .slice B62 ((sgP [97] 0 0).length) d62] 39, blk g16 [Str [], N64 (0), Str [], Str [], I ((0 : Nat) : Int), Str [], I ((0 : Nat) : Int), .slice none 0 0, .slice none 0 0] 39, blk g18 [Str [], N64 (0), Str [], Str [], I ((0 : Nat) : Int), Str [], I ((0 : Nat) : Int), .slice none 0 0, .slice none 0 0] 39] _
  refine J.y (op_assign rfl rfl) rfl rfl rfl ?_
  refine J.nil ?_
  refine J.then_n (J.k hK13 ?_)
  refine J.keepE [(0, _), (7, _), (9, _), (11, _), (13, _), (14, _), (15, _), (17, _), (19, _)] ⟨rfl, rfl, rfl, rfl, rfl, rfl, rfl, rfl, rfl, trivial⟩ ?_
  refine J.seq (fun K14 hK14 => ?_)
  refine J.region ?_
  refine J.y (op_move rfl rfl) rfl rfl rfl ?_
  refine J.y (op_move rfl rfl) rfl rfl rfl ?_
  refine J.y (op_loadBA 2 rfl rfl rfl Tryz.isAgg34 Tryz.sizeOf34 rfl) rfl rfl rfl ?_
  refine J.e (op_call rfl rfl ent7 (Ct.use0 (fun F' hF => psignH_ct F' (hK.mono (hF F (by simp))) g30 [97] 0 (h30.mono (hF m30 (by simp))) (by decide) (by decide) 1 (by decide) s (by omega) ver.toNat (Wo.opn ([97])) (Xm.root ([97]) (0)) ((0 : Nat) : Int) [0, 0, 0, 0, 0, 0, 0, 0, 0, 0, 0, 0, 0, 0, 0, 0] hE))) rfl rfl rfl ?_
  intro g86 _
  refine J.y (op_move rfl rfl) rfl rfl rfl ?_
  refine J.y (op_extract (v := .agg #[Str [], N64 (0), Str [], Str [], I ((0 : Nat) : Int), Str [], I ((0 : Nat) : Int), .slice none 0 0, .slice none 0 0]) rfl rfl rfl) rfl rfl rfl ?_
  refine J.y (op_extract (v := I ((11 : Nat) : Int)) rfl rfl rfl) rfl rfl rfl ?_
  refine J.e (op_alloc (l := [Str [], .int .u64 0, Str [], Str [], I 0, Str [], I 0, .slice none 0 0, .slice none 0 0]) rfl Tryz.zeroValue39 rfl) rfl rfl rfl ?_
  intro g20 _
  change J _ _ _ [F, m30, blk g9 [N64 (ver.toNat), Str (Wo.opn (([97]))), Str (Xm.root (([97])) (0)), I ((0 : Nat) : Int), Str ([0, 0, 0, 0, 0, 0, 0, 0, 0, 0, 0, 0, 0, 0, 0, 0])] 34, m42, n42, blk g10 [Str (s), N64 (ver.toNat), Str ((Wo.opn ([97]))), Str ((Xm.root ([97]) (0))), I (((0 : Nat) : Int)), Str ([0, 0, 0, 0, 0, 0, 0, 0, 0, 0, 0, 0, 0, 0, 0, 0]), I ((0 : Nat) : Int), .slice A42 ((sgC [97] 0 (pmsg s ver.toNat (Wo.opn ([97])) (Xm.root ([97]) (0)) ((0 : Nat) : Int) [0, 0, 0, 0, 0, 0, 0, 0, 0, 0, 0, 0, 0, 0, 0, 0])).length) c42, .slice B42 ((sgP [97] 0 0).length) d42] 39, m62, n62, blk g14 [Str (s), N64 (ver.toNat), Str ((Wo.opn ([97]))), Str ((Xm.root ([97]) (0))), I (((0 : Nat) : Int)), Str ([0, 0, 0, 0, 0, 0, 0, 0, 0, 0, 0, 0, 0, 0, 0, 0]), I ((0 : Nat) : Int), .slice A62 ((sgC [97] 0 (pmsg s ver.toNat (Wo.opn ([97])) (Xm.root ([97]) (0)) ((0 : Nat) : Int) [0, 0, 0, 0, 0, 0, 0, 0, 0, 0, 0, 0, 0, 0, 0, 0])).length) c62, .slice B62 ((sgP [97] 0 0).length) d62] 39, blk g16 [Str [], N64 (0), Str [], Str [], I ((0 : Nat) : Int), Str [], I ((0 : Nat) : Int), .slice none 0 0, .slice none 0 0] 39, blk g18 [Str [], N64 (0), Str [], Str [], I ((0 : Nat) : Int), Str [], I ((0 : Nat) : Int), .slice none 0 0, .slice none 0 0] 39, blk g20 [Str [], .int .u64 0, Str [], Str [], I 0, Str [], I 0, .slice none 0 0, .slice none 0 0] 39] _
  refine J.s (op_storeAll (i := 11) (l := [Str [], .int .u64 0, Str [], Str [], I 0, Str [], I 0, .slice none 0 0, .slice none 0 0]) (vs := [Str [], N64 (0), Str [], Str [], I ((0 : Nat) : Int), Str [], I ((0 : Nat) : Int), .slice none 0 0, .slice none 0 0]) rfl rfl rfl rfl rfl Tryz.sizeOf39 rfl rfl) rfl rfl (fun _ _ => ?_)
  change J _ _ _ [F, m30, blk g9 [N64 (ver.toNat), Str (Wo.opn (([97]))), Str (Xm.root (([97])) (0)), I ((0 : Nat) : Int), Str ([0, 0, 0, 0, 0, 0, 0, 0, 0, 0, 0, 0, 0, 0, 0, 0])] 34, m42, n42, blk g10 [Str (s), N64 (ver.toNat), Str ((Wo.opn ([97]))), Str ((Xm.root ([97]) (0))), I (((0 : Nat) : Int)), Str ([0, 0, 0, 0, 0, 0, 0, 0, 0, 0, 0, 0, 0, 0, 0, 0]), I ((0 : Nat) : Int), .slice A42 ((sgC [97] 0 (pmsg s ver.toNat (Wo.opn ([97])) (Xm.root ([97]) (0)) ((0 : Nat) : Int) [0, 0, 0, 0, 0, 0, 0, 0, 0, 0, 0, 0, 0, 0, 0, 0])).length) c42, .slice B42 ((sgP [97] 0 0).length) d42] 39, m62, n62, blk g14 [Str (s), N64 (ver.toNat), Str ((Wo.opn ([97]))), Str ((Xm.root ([97]) (0))), I (((0 : Nat) : Int)), Str ([0, 0, 0, 0, 0, 0, 0, 0, 0, 0, 0, 0, 0, 0, 0, 0]), I ((0 : Nat) : Int), .slice A62 ((sgC [97] 0 (pmsg s ver.toNat (Wo.opn ([97])) (Xm.root ([97]) (0)) ((0 : Nat) : Int) [0, 0, 0, 0, 0, 0, 0, 0, 0, 0, 0, 0, 0, 0, 0, 0])).length) c62, .slice B62 ((sgP [97] 0 0).length) d62] 39, blk g16 [Str [], N64 (0), Str [], Str [], I ((0 : Nat) : Int), Str [], I ((0 : Nat) : Int), .slice none 0 0, .slice none 0 0] 39, blk g18 [Str [], N64 (0), Str [], Str [], I ((0 : Nat) : Int), Str [], I ((0 : Nat) : Int), .slice none 0 0, .slice none 0 0] 39, blk g20 [Str [], N64 (0), Str [], Str [], I ((0 : Nat) : Int), Str [], I ((0 : Nat) : Int), .slice none 0 0, .slice none 0 0] 39] _
  refine J.y (op_assign rfl rfl) rfl rfl rfl ?_
  refine J.nil ?_
  refine J.then_n (J.k hK14 ?_)
  refine J.keepE [(0, _), (7, _), (9, _), (11, _), (13, _), (14, _), (15, _), (17, _), (19, _), (21, _)] ⟨rfl, rfl, rfl, rfl, rfl, rfl, rfl, rfl, rfl, rfl, trivial⟩ ?_
  refine J.seq (fun K15 hK15 => ?_)
  refine J.draw [blk g14 [Str (s), N64 (ver.toNat), Str ((Wo.opn ([97]))), Str ((Xm.root ([97]) (0))), I (((0 : Nat) : Int)), Str ([0, 0, 0, 0, 0, 0, 0, 0, 0, 0, 0, 0, 0, 0, 0, 0]), I ((0 : Nat) : Int), .slice A62 ((sgC [97] 0 (pmsg s ver.toNat (Wo.opn ([97])) (Xm.root ([97]) (0)) ((0 : Nat) : Int) [0, 0, 0, 0, 0, 0, 0, 0, 0, 0, 0, 0, 0, 0, 0, 0])).length) c62, .slice B62 ((sgP [97] 0 0).length) d62] 39, blk g9 [N64 (ver.toNat), Str (Wo.opn (([97]))), Str (Xm.root (([97])) (0)), I ((0 : Nat) : Int), Str ([0, 0, 0, 0, 0, 0, 0, 0, 0, 0, 0, 0, 0, 0, 0, 0])] 34] [] (.y 0 (.y 1 (.y 2 (.y 3 (.y 4 (.y 5 (.y 6 (.y 7 (.y 8 (.y 9 (.y 10 (.y 11 (.y 12 (.y 13 (.y 14 (.y 15 (.y 16 (.y 17 (.y 18 (.y 19 (.y 20 (.y 21 (.y 22 (.y 23 (.y 25 (.y 26 (.y 28 (.y 29 (.e 24 (.e 27 (.e 30 (.y 31 (.y 32 (.y 33 (.y 34 (.y 35 (.y 36 (.y 37 (.y 38 (.y 39 (.y 40 (.y 41 (.y 42 (.y 43 (.y 44 .nil))))))))))))))))))))))))))))))))))))))))))))) Tryz.wide (by decide +kernel) (by simp) ?_
  refine J.dy rfl (op_move rfl rfl) rfl rfl rfl rfl ?_
  refine J.dy rfl ((op_eql rfl rfl rfl).as (v' := .bool true) (congrArg Value.bool (decide_eq_true (by decide)))) rfl rfl rfl rfl ?_
  refine J.dy rfl (op_move rfl rfl) rfl rfl rfl rfl ?_
  refine J.dyg rfl (op_move rfl rfl) (Wan.is rfl rfl rfl rfl rfl) rfl rfl rfl ?_
  refine J.dyg rfl ((op_eql rfl rfl rfl).as (v' := .bool true) (congrArg Value.bool (decide_eq_true (by decide)))) (Wan.is rfl rfl rfl rfl rfl) rfl rfl rfl ?_
  refine J.dy rfl (op_pickT rfl rfl rfl) rfl rfl rfl rfl ?_
  refine J.dy rfl (op_move rfl rfl) rfl rfl rfl rfl ?_
  refine J.dyg rfl (op_move rfl rfl) (Wan.is rfl rfl rfl rfl rfl) rfl rfl rfl ?_
  refine J.dyg rfl ((op_eql rfl rfl rfl).as (v' := .bool true) (congrArg Value.bool (decide_eq_true (by decide)))) (Wan.is rfl rfl rfl rfl rfl) rfl rfl rfl ?_
  refine J.dy rfl (op_pickT rfl rfl rfl) rfl rfl rfl rfl ?_
  refine J.dy rfl (op_move rfl rfl) rfl rfl rfl rfl ?_
  refine J.dyg rfl (op_fieldAddr (j := 0) rfl rfl Tryz.underlying39 rfl Tryz.sizeOf9 rfl) (Wan.is rfl rfl rfl rfl rfl) rfl rfl rfl ?_
  refine J.dyg rfl (op_loadB 0 (v := Str (s)) rfl rfl rfl Tryz.isAgg9 rfl) (Wan.is rfl rfl rfl rfl rfl) rfl rfl rfl ?_
  refine J.dyg rfl (op_move rfl rfl) (Wan.is rfl rfl rfl rfl rfl) rfl rfl rfl ?_
  refine J.dyg rfl ((op_seq rfl rfl rfl).as (v' := .bool true) (congrArg Value.bool (decide_eq_true (rfl)))) (Wan.is rfl rfl rfl rfl rfl) rfl rfl rfl ?_
  refine J.dy rfl (op_pickT rfl rfl rfl) rfl rfl rfl rfl ?_
  refine J.dy rfl (op_move rfl rfl) rfl rfl rfl rfl ?_
  refine J.dyg rfl (op_fieldAddr (j := 1) rfl rfl Tryz.underlying39 rfl Tryz.sizeOf34 rfl) (Wan.is rfl rfl rfl rfl rfl) rfl rfl rfl ?_
  refine J.dyg rfl (op_loadA (vs := [N64 (ver.toNat), Str ((Wo.opn ([97]))), Str ((Xm.root ([97]) (0))), I (((0 : Nat) : Int)), Str ([0, 0, 0, 0, 0, 0, 0, 0, 0, 0, 0, 0, 0, 0, 0, 0])]) rfl rfl Tryz.isAgg34 Tryz.sizeOf34 (m := blk g14 [Str (s), N64 (ver.toNat), Str ((Wo.opn ([97]))), Str ((Xm.root ([97]) (0))), I (((0 : Nat) : Int)), Str ([0, 0, 0, 0, 0, 0, 0, 0, 0, 0, 0, 0, 0, 0, 0, 0]), I ((0 : Nat) : Int), .slice A62 ((sgC [97] 0 (pmsg s ver.toNat (Wo.opn ([97])) (Xm.root ([97]) (0)) ((0 : Nat) : Int) [0, 0, 0, 0, 0, 0, 0, 0, 0, 0, 0, 0, 0, 0, 0, 0])).length) c62, .slice B62 ((sgP [97] 0 0).length) d62] 39) (by simp) (Cells.blk0.sub 1 5) rfl) (Wan.is rfl rfl rfl rfl rfl) rfl rfl rfl ?_
  refine J.dyg rfl (op_loadBA 1 rfl rfl rfl Tryz.isAgg34 Tryz.sizeOf34 rfl) (Wan.is rfl rfl rfl rfl rfl) rfl rfl rfl ?_
  refine J.dyg rfl ((op_eqS rfl rfl rfl (by kernel_rfl) (fun w => eqEn (⟨ver.toNat, (Wo.opn ([97])), (Xm.root ([97]) (0)), ((0 : Nat) : Int), [0, 0, 0, 0, 0, 0, 0, 0, 0, 0, 0, 0, 0, 0, 0, 0]⟩ : En) (⟨ver.toNat, (Wo.opn ([97])), (Xm.root ([97]) (0)), ((0 : Nat) : Int), [0, 0, 0, 0, 0, 0, 0, 0, 0, 0, 0, 0, 0, 0, 0, 0]⟩ : En) w)).as (v' := .bool true) (congrArg Value.bool (decide_eq_true rfl))) (Wan.is rfl rfl rfl rfl rfl) rfl rfl rfl ?_
  refine J.dy rfl (op_pickT rfl rfl rfl) rfl rfl rfl rfl ?_
  refine J.dy rfl (op_move rfl rfl) rfl rfl rfl rfl ?_
  refine J.dyg rfl (op_move rfl rfl) (Wan.is rfl rfl rfl rfl rfl) rfl rfl rfl ?_
  refine J.dyg rfl (op_move rfl rfl) (Wan.is rfl rfl rfl rfl rfl) rfl rfl rfl ?_
  refine J.dyg rfl (op_loadBA 1 rfl rfl rfl Tryz.isAgg34 Tryz.sizeOf34 rfl) (Wan.is rfl rfl rfl rfl rfl) rfl rfl rfl ?_
  refine J.dyg rfl (op_fieldAddr (j := 6) rfl rfl Tryz.underlying39 rfl Tryz.sizeOf37 rfl) (Wan.is rfl rfl rfl rfl rfl) rfl rfl rfl ?_
  refine J.dyg rfl (op_loadA (vs := [I ((0 : Nat) : Int), .slice A62 ((sgC [97] 0 (pmsg s ver.toNat (Wo.opn ([97])) (Xm.root ([97]) (0)) ((0 : Nat) : Int) [0, 0, 0, 0, 0, 0, 0, 0, 0, 0, 0, 0, 0, 0, 0, 0])).length) c62, .slice B62 ((sgP [97] 0 0).length) d62]) rfl rfl Tryz.isAgg37 Tryz.sizeOf37 (m := blk g14 [Str (s), N64 (ver.toNat), Str ((Wo.opn ([97]))), Str ((Xm.root ([97]) (0))), I (((0 : Nat) : Int)), Str ([0, 0, 0, 0, 0, 0, 0, 0, 0, 0, 0, 0, 0, 0, 0, 0]), I ((0 : Nat) : Int), .slice A62 ((sgC [97] 0 (pmsg s ver.toNat (Wo.opn ([97])) (Xm.root ([97]) (0)) ((0 : Nat) : Int) [0, 0, 0, 0, 0, 0, 0, 0, 0, 0, 0, 0, 0, 0, 0, 0])).length) c62, .slice B62 ((sgP [97] 0 0).length) d62] 39) (by simp) (Cells.blk0.sub 6 3) rfl) (Wan.is rfl rfl rfl rfl rfl) rfl rfl rfl ?_
  refine J.deg rfl (op_call rfl rfl ent6 (Ct.use0 (fun F' hF => xpubK_ct F' g30 ([97]) 0 (h30.mono (hF m30 (by simp)))))) (Wan.is rfl rfl rfl rfl rfl) rfl rfl (by simp) ?_
  intro g113 _
  refine J.deg rfl (op_call rfl rfl ent8 (Ct.use0 (fun F' hF => pmsg_ct F' (hK.mono (hF F (by simp))) s (by first | assumption | omega) ver.toNat (Wo.opn (([97]))) (Xm.root (([97])) (0)) ((0 : Nat) : Int) ([0, 0, 0, 0, 0, 0, 0, 0, 0, 0, 0, 0, 0, 0, 0, 0]) (by first | assumption | omega)))) (Wan.is rfl rfl rfl rfl rfl) rfl rfl (by simp) ?_
  intro g116 _
  refine J.deg rfl (op_call rfl rfl ent11 (Ct.use0 (fun F' hF => xverK_ct F' (hK.mono (hF F (by simp))) [97] 0 0 (pmsg s ver.toNat (Wo.opn ([97])) (Xm.root ([97]) (0)) ((0 : Nat) : Int) [0, 0, 0, 0, 0, 0, 0, 0, 0, 0, 0, 0, 0, 0, 0, 0]) A62 _ c62 (h62.sl.mono (hF m62 (by simp))) B62 _ d62 (k62.sl.mono (hF n62 (by simp))) (by omega) (by decide) (by decide)))) (Wan.is rfl rfl rfl rfl rfl) rfl rfl (by simp) ?_
  intro g119 _
  refine J.dy rfl (op_pickT rfl rfl rfl) rfl rfl rfl rfl ?_
  refine J.dy rfl (op_move rfl rfl) rfl rfl rfl rfl ?_
  refine J.dyg rfl (op_move rfl rfl) (Wan.is rfl rfl rfl rfl rfl) rfl rfl rfl ?_
  refine J.dyg rfl ((op_eql rfl rfl rfl).as (v' := .bool true) (congrArg Value.bool (decide_eq_true (hq3)))) (Wan.is rfl rfl rfl rfl rfl) rfl rfl rfl ?_
  refine J.dy rfl (op_pickT rfl rfl rfl) rfl rfl rfl rfl ?_
  refine J.dy rfl (op_move rfl rfl) rfl rfl rfl rfl ?_
  refine J.dyg rfl (op_move rfl rfl) (Wan.is rfl rfl rfl rfl rfl) rfl rfl rfl ?_
  refine J.dyg rfl ((op_eql rfl rfl rfl).as (v' := .bool true) (congrArg Value.bool (decide_eq_true (hq2)))) (Wan.is rfl rfl rfl rfl rfl) rfl rfl rfl ?_
  refine J.dy rfl (op_pickT rfl rfl rfl) rfl rfl rfl rfl ?_
  refine J.dy rfl (op_move rfl rfl) rfl rfl rfl rfl ?_
  refine J.dyg rfl (op_move rfl rfl) (Wan.is rfl rfl rfl rfl rfl) rfl rfl rfl ?_
  refine J.dyg rfl ((op_eql rfl rfl rfl).as (v' := .bool true) (congrArg Value.bool (decide_eq_true (by decide)))) (Wan.is rfl rfl rfl rfl rfl) rfl rfl rfl ?_
  refine J.dy rfl (op_pickT rfl rfl rfl) rfl rfl rfl rfl ?_
  refine J.dy rfl (op_assign rfl rfl) rfl rfl rfl rfl ?_
  refine J.dnil ?_
  refine J.then_n (J.k hK15 ?_)
  refine J.keepE [(6, _)] ⟨rfl, trivial⟩ ?_
  refine J.ret ?_
  exact J.done hw0 (fun _ _ h => h) (res1 rfl rfl) (retOk () rfl trivial [0] rfl (by decide))

theorem policyCodes_ct (F : Hp) (hK : Cells F ⟨0, 0, none⟩ (Sha.K.map W32)) (hA : Cells F ⟨1, 0, none⟩ alphaV) (hT : TabsF F) (lb : List UInt8) (ver : UInt32) (cx : Nat) (hcx : cx < 65536) : Ct Tryz.prog 3 [Str (lb), W32 ver, .int .u16 ((cx : Nat) : Int)] [F] (fun _ : Unit => .bool true) (fun _ => True) (fun _ => [F]) := by
  by_cases h : ver.toNat = 0
  · exact policyCodes_no F hK hA hT lb ver h cx hcx
  · exact policyCodes_ok F hK hA hT lb ver h cx hcx
theorem open_u16 {H : Type} {enc : TypeId × Value → H} {P : Program} {w : World} {base : Nat} {sp : Nat → Bool} {held : Bool} {r : Reach} {b0 : Nat} {t : TypeId} {v : Value} {d : DataW H} {ps : List MemPlace} (ht : P.underlying t = some (.int .u16)) (hval : Value.okWide P w r b0 t v) (hd : DataW.Trod enc P w base sp held t v d ps) : ∃ x : Nat, v = .int .u16 (x : Int) ∧ x < 65536 := by
  obtain ⟨x, rfl, _, _, hw⟩ := ChangeShapes.open_int ht hval hd
  simp only [Lit.wf, IntKind.min, IntKind.max, IntKind.signed, IntKind.bits, Bool.and_eq_true, decide_eq_true_eq] at hw
  simp at hw
  exact ⟨x.toNat, by congr 1; omega, by omega⟩

end Go.Proofs.YtnkfapecbmmpeaaGreatDoor
