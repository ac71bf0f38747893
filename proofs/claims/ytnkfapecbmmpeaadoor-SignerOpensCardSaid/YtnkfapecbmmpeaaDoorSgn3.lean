/- A part of the proof: contracts of functions of the program, each for every state of the heaps that it names. -/
import Derived.Test.YtnkfapecbmmpeaaDoorSgq
set_option linter.unusedSimpArgs false
set_option linter.unusedVariables false
namespace Go.Proofs.YtnkfapecbmmpeaaDoor
open Go Go.Fw
set_option maxRecDepth 100000
set_option maxHeartbeats 1000000
theorem ent32 : Enters Tryd.prog 32 := Enters.of Tryd.func32 rfl (by kernel_rfl)
theorem ent35 : Enters Tryd.prog 35 := Enters.of Tryd.func35 rfl (by kernel_rfl)
theorem ent36 : Enters Tryd.prog 36 := Enters.of Tryd.func36 rfl (by kernel_rfl)
theorem ent38 : Enters Tryd.prog 38 := Enters.of Tryd.func38 rfl (by kernel_rfl)
theorem ent40 : Enters Tryd.prog 40 := Enters.of Tryd.func40 rfl (by kernel_rfl)
attribute [local irreducible] Sha.tagged Wo.pub Wo.publicOf Wo.signs Wo.ends Wo.digs Wo.walk Wo.opn Mk.root Mk.path Mk.climb Xm.root sgC sgP note prt

theorem speaks11_ct (F : Hp) (hK : Cells F ⟨1, 0, none⟩ (Sha.K.map W32)) : Ct Tryd.prog 31 [] [F] (fun _ : Unit => .bool true) (fun _ => True) (fun _ => [F]) := by
  have hok0 : (Dk.new 8).ok := Dk.new_ok (by decide) (by decide)
  have hz0 : (Dk.new 8).wait = [] ∧ (Dk.new 8).keep = [] := ⟨rfl, rfl⟩
  have hX0 := hst_new (n := 8) (first := 0) (size := 8 / 2) (by decide) (by decide)
  have c1 := calm_one hok0 rfl rfl rfl (X := (sX0 0)) (s := note 0) (by rw [note_len]; decide) (by decide) (by decide) (by decide)
  obtain ⟨D1, hD1⟩ : ∃ D1, D1 = (wendH (Dk.new 8) (sX0 0) (note 0)).1 := ⟨_, rfl⟩
  have c1b := c1.2
  rw [← hD1] at c1b
  obtain ⟨ok1, o1, a1, w1, l1, k1⟩ := c1b
  have hz1 : D1.wait = [] ∧ D1.keep = [] := ⟨w1, k1⟩
  have c2 := calm_one ok1 o1 a1 w1 (X := (putX (sX0 0) (note 0))) (s := note (0 + 1)) (by rw [note_len]; decide) (by decide) (by decide) (by rw [l1, putX_e (note39 _)]; decide)
  refine Ct.walk Tryd.func31 rfl Tryd.ntmps31 rfl (fun w0 hw0 => ?_)
  change J _ [] _ _ _
  refine J.seq (fun K1 hK1 => ?_)
  refine J.region ?_
  refine J.y (op_assign rfl rfl) rfl rfl rfl ?_
  refine J.nil ?_
  refine J.then_n (J.k hK1 ?_)
  refine J.keepE [] trivial ?_
  refine J.seq (fun K2 hK2 => ?_)
  refine J.region ?_
  refine J.e (op_call rfl rfl ent32 (Ct.use (new := fun x : Nat × Hp => [x.2]) (fun F' _ => new_ok_ct F' 8 (by decide) (by decide)))) rfl rfl rfl ?_
  rintro ⟨g12, m12⟩ hb12
  try dsimp only at hb12
  change J _ ((12, .tuple #[Ptr g12, I 0]) :: _) _ [F, m12] _
  obtain ⟨A, c, B, e, hc, hsL, hsW⟩ := hb12.see
  refine J.y (op_move rfl rfl) rfl rfl rfl ?_
  refine J.y (op_extract (v := Ptr g12) rfl rfl rfl) rfl rfl rfl ?_
  refine J.y (op_extract (v := I ((0 : Nat) : Int)) rfl rfl rfl) rfl rfl rfl ?_
  refine J.y (op_assign rfl rfl) rfl rfl rfl ?_
  refine J.y (op_assign rfl rfl) rfl rfl rfl ?_
  refine J.nil ?_
  refine J.then_n (J.k hK2 ?_)
  refine J.keepE [(1, _), (2, _)] ⟨rfl, rfl, trivial⟩ ?_
  refine J.seq (fun K3 hK3 => ?_)
  refine J.region ?_
  refine J.y (op_move rfl rfl) rfl rfl rfl ?_
  refine J.e (op_call rfl rfl ent35 (Ct.use (new := fun x : (Nat × Hp) × (Nat × Option Addr × Nat × Hp) × Nat => [x.1.2, blk x.2.1.1 (bkC g12 0 (8 / 2) (sX0 0) x.2.1.2.1 x.2.1.2.2.1 false) 130, x.2.1.2.2.2, blk x.2.2 [Ptr x.1.1, Ptr x.2.1.1, I ((0 : Nat) : Int)] 139]) (fun F' hF => sopen_e F' (hK.mono (hF F (by simp))) g12 (Dk.new 8) hok0 A c B e none 0 (hc.mono (hF m12 (by simp))) (hsL.mono (hF m12 (by simp))) (hsW.mono (hF m12 (by simp))) (by decide) 0 8 (by decide) (by decide) rfl [115, 101, 101, 100] (by decide) 1 (by decide) (sX0 0) hX0 (by decide) rfl))) rfl rfl rfl ?_
  rintro ⟨⟨gk, mk⟩, ⟨gb, Ab, cb, mb⟩, gs⟩ ⟨hk, hb⟩
  change J _ ((17, .tuple #[Ptr gs, I ((0 : Nat) : Int)]) :: _) _ [F, m12, mk, blk gb (bkC g12 0 (8 / 2) (sX0 0) Ab cb false) 130, mb, blk gs [Ptr gk, Ptr gb, I ((0 : Nat) : Int)] 139] _
  refine J.y (op_move rfl rfl) rfl rfl rfl ?_
  refine J.y (op_extract (v := Ptr gs) rfl rfl rfl) rfl rfl rfl ?_
  refine J.y (op_extract (v := I ((0 : Nat) : Int)) rfl rfl rfl) rfl rfl rfl ?_
  refine J.y (op_assign rfl rfl) rfl rfl rfl ?_
  refine J.y (op_assign rfl rfl) rfl rfl rfl ?_
  refine J.nil ?_
  refine J.then_n (J.k hK3 ?_)
  refine J.keepE [(2, _), (3, _), (4, _)] ⟨rfl, rfl, rfl, trivial⟩ ?_
  refine J.seq (fun K4 hK4 => ?_)
  refine J.seq (fun K5 hK5 => ?_)
  refine J.region ?_
  refine J.y (op_move rfl rfl) rfl rfl rfl ?_
  refine J.y ((op_neq rfl rfl rfl).as (v' := .bool false) (congrArg Value.bool (decide_eq_false (by decide)))) rfl rfl rfl ?_
  refine J.y (op_move rfl rfl) rfl rfl rfl ?_
  refine J.yg (Wan.is rfl rfl rfl rfl rfl) (op_move rfl rfl) rfl rfl ?_
  refine J.yg (Wan.is rfl rfl rfl rfl rfl) ((op_neq rfl rfl rfl).as (v' := .bool false) (congrArg Value.bool (decide_eq_false (by decide)))) rfl rfl ?_
  refine J.y (op_pickF rfl rfl rfl) rfl rfl rfl ?_
  refine J.nil ?_
  refine J.then_n (J.k hK5 ?_)
  refine J.keepE [(3, _), (25, _)] ⟨rfl, rfl, trivial⟩ ?_
  refine J.condF rfl rfl ?_
  refine J.skip ?_
  refine J.then_n (J.k hK4 ?_)
  refine J.keepE [(3, _)] ⟨rfl, trivial⟩ ?_
  refine J.seq (fun K6 hK6 => ?_)
  refine J.perm [5, 3, 1, 0, 2, 4] [blk gs [Ptr gk, Ptr gb, I ((0 : Nat) : Int)] 139, blk gb (bkC g12 0 (8 / 2) (sX0 0) Ab cb false) 130, m12, F, mk, mb] rfl (by decide) ?_
  refine J.region ?_
  refine J.y (op_move rfl rfl) rfl rfl rfl ?_
  refine J.e (op_call rfl rfl ent36 (Ct.useA [blk gs [Ptr gk, Ptr gb, I ((0 : Nat) : Int)] 139, blk gb (bkC g12 0 (8 / 2) (sX0 0) Ab cb false) 130, m12] [F, mk, mb] (A' := fun x : (Hp × Option Addr × Nat × Hp) × ((Option Addr × Nat × Hp) × (Option Addr × Nat × Hp)) => [blk gs [Ptr gk, Ptr gb, I ((0 + 1 : Nat) : Int)] 139, blk gb (bkC g12 0 (8 / 2) (putX (sX0 0) (note 0)) x.1.2.1 x.1.2.2.1 false) 130, x.1.1]) (new := fun x => [x.1.2.2.2, x.2.1.2.2, x.2.2.2.2]) (fun F' hF => ssign_ok F' (blk gb (bkC g12 0 (8 / 2) (sX0 0) Ab cb false) 130) m12 gs gk gb 0 (hK.mono (hF F (by simp))) [115, 101, 101, 100] 1 (hk.mono (hF mk (by simp))) (by decide) (by decide) (by decide) [120] (by first | decide | omega) (fun x : Hp × Option Addr × Nat × Hp => Dsk x.1 g12 (wendH (Dk.new 8) (sX0 0) (note 0)).1 none 0 ∧ Row x.2.2.2 9 1 x.2.1 (putX (sX0 0) (note 0)).R.length x.2.2.1 (strsV (putX (sX0 0) (note 0)).R)) (fun x => blk gb (bkC g12 0 (8 / 2) (putX (sX0 0) (note 0)) x.2.1 x.2.2.1 false) 130) (fun x => x.1) (fun x => x.2.2.2) (fun F2 h2 => putH_good F2 m12 (hK.mono ((hF F (by simp)).trans h2)) gb g12 0 (8 / 2) (sX0 0) Ab cb (hb.sl.mono ((hF mb (by simp)).trans h2)) (Dk.new 8) none 0 hb12 hok0 (by rw [hz0.1]; exact Nat.zero_le _) (by rw [hz0.2]; exact Sl.nil) (by rw [hz0.2]; exact Nat.zero_le _) (note 0) (by rw [note_len]; decide) (by decide) (by decide) (by decide) (by rw [partsN_one (note39 _)]; decide) c1.1)))) rfl rfl rfl ?_
  rintro ⟨⟨m28, A28, c28, r28⟩, ⟨⟨P28, p28, u28⟩, ⟨Q28, q28, v28⟩⟩⟩ ⟨⟨hd28, hr28⟩, hp28, hq28⟩
  change J _ ((28, .tuple #[.agg #[I ((0 : Nat) : Int), .slice P28 (sgC [115, 101, 101, 100] 0 [120]).length p28, .slice Q28 (sgP [115, 101, 101, 100] 1 0).length q28], I ((0 : Nat) : Int)]) :: _) _ [blk gs [Ptr gk, Ptr gb, I ((0 + 1 : Nat) : Int)] 139, blk gb (bkC g12 0 (8 / 2) (putX (sX0 0) (note 0)) A28 c28 false) 130, m28, F, mk, mb, r28, u28, v28] _
  rw [← hD1] at hd28
  refine J.y (op_move rfl rfl) rfl rfl rfl ?_
  refine J.y (op_extract (v := .agg #[I ((0 : Nat) : Int), .slice P28 ((sgC [115, 101, 101, 100] 0 [120]).length) p28, .slice Q28 ((sgP [115, 101, 101, 100] 1 0).length) q28]) rfl rfl rfl) rfl rfl rfl ?_
  refine J.y (op_extract (v := I ((0 : Nat) : Int)) rfl rfl rfl) rfl rfl rfl ?_
  refine J.e (op_alloc (l := [I 0, .slice none 0 0, .slice none 0 0]) rfl Tryd.zeroValue75 rfl) rfl rfl rfl ?_
  intro g5 _
  change J _ _ _ [blk gs [Ptr gk, Ptr gb, I ((0 + 1 : Nat) : Int)] 139, blk gb (bkC g12 0 (8 / 2) (putX (sX0 0) (note 0)) A28 c28 false) 130, m28, F, mk, mb, r28, u28, v28, blk g5 [I 0, .slice none 0 0, .slice none 0 0] 75] _
  refine J.s (op_storeAll (i := 9) (l := [I 0, .slice none 0 0, .slice none 0 0]) (vs := [I ((0 : Nat) : Int), .slice P28 ((sgC [115, 101, 101, 100] 0 [120]).length) p28, .slice Q28 ((sgP [115, 101, 101, 100] 1 0).length) q28]) rfl rfl rfl rfl rfl Tryd.sizeOf75 rfl rfl) rfl rfl (fun _ _ => ?_)
  change J _ _ _ [blk gs [Ptr gk, Ptr gb, I ((0 + 1 : Nat) : Int)] 139, blk gb (bkC g12 0 (8 / 2) (putX (sX0 0) (note 0)) A28 c28 false) 130, m28, F, mk, mb, r28, u28, v28, blk g5 [I ((0 : Nat) : Int), .slice P28 ((sgC [115, 101, 101, 100] 0 [120]).length) p28, .slice Q28 ((sgP [115, 101, 101, 100] 1 0).length) q28] 75] _
  refine J.y (op_assign rfl rfl) rfl rfl rfl ?_
  refine J.nil ?_
  refine J.then_n (J.k hK6 ?_)
  refine J.keepE [(3, _), (5, _), (6, _)] ⟨rfl, rfl, rfl, trivial⟩ ?_
  refine J.seq (fun K7 hK7 => ?_)
  refine J.perm [0, 1, 2, 3, 4, 5, 6, 7, 8, 9] [blk gs [Ptr gk, Ptr gb, I ((0 + 1 : Nat) : Int)] 139, blk gb (bkC g12 0 (8 / 2) (putX (sX0 0) (note 0)) A28 c28 false) 130, m28, F, mk, mb, r28, u28, v28, blk g5 [I ((0 : Nat) : Int), .slice P28 ((sgC [115, 101, 101, 100] 0 [120]).length) p28, .slice Q28 ((sgP [115, 101, 101, 100] 1 0).length) q28] 75] rfl (by decide) ?_
  refine J.region ?_
  refine J.y (op_move rfl rfl) rfl rfl rfl ?_
  refine J.e (op_call rfl rfl ent36 (Ct.useA [blk gs [Ptr gk, Ptr gb, I (((0 + 1) : Nat) : Int)] 139, blk gb (bkC g12 0 (8 / 2) (putX (sX0 0) (note 0)) A28 c28 false) 130, m28] [F, mk, mb, r28, u28, v28, blk g5 [I ((0 : Nat) : Int), .slice P28 (sgC [115, 101, 101, 100] 0 [120]).length p28, .slice Q28 (sgP [115, 101, 101, 100] 1 0).length q28] 75] (A' := fun x : (Hp × Option Addr × Nat × Hp) × ((Option Addr × Nat × Hp) × (Option Addr × Nat × Hp)) => [blk gs [Ptr gk, Ptr gb, I (((0 + 1) + 1 : Nat) : Int)] 139, blk gb (bkC g12 0 (8 / 2) (putX (putX (sX0 0) (note 0)) (note (0 + 1))) x.1.2.1 x.1.2.2.1 false) 130, x.1.1]) (new := fun x => [x.1.2.2.2, x.2.1.2.2, x.2.2.2.2]) (fun F' hF => ssign_ok F' (blk gb (bkC g12 0 (8 / 2) (putX (sX0 0) (note 0)) A28 c28 false) 130) m28 gs gk gb (0 + 1) (hK.mono (hF F (by simp))) [115, 101, 101, 100] 1 (hk.mono (hF mk (by simp))) (by decide) (by decide) (by decide) [121] (by first | decide | omega) (fun x : Hp × Option Addr × Nat × Hp => Dsk x.1 g12 (wendH D1 (putX (sX0 0) (note 0)) (note (0 + 1))).1 none 0 ∧ Row x.2.2.2 9 1 x.2.1 (putX (putX (sX0 0) (note 0)) (note (0 + 1))).R.length x.2.2.1 (strsV (putX (putX (sX0 0) (note 0)) (note (0 + 1))).R)) (fun x => blk gb (bkC g12 0 (8 / 2) (putX (putX (sX0 0) (note 0)) (note (0 + 1))) x.2.1 x.2.2.1 false) 130) (fun x => x.1) (fun x => x.2.2.2) (fun F2 h2 => putH_good F2 m28 (hK.mono ((hF F (by simp)).trans h2)) gb g12 0 (8 / 2) (putX (sX0 0) (note 0)) A28 c28 (hr28.sl.mono ((hF r28 (by simp)).trans h2)) D1 none 0 hd28 ok1 (by rw [hz1.1]; exact Nat.zero_le _) (by rw [hz1.2]; exact Sl.nil) (by rw [hz1.2]; exact Nat.zero_le _) (note (0 + 1)) (by rw [note_len]; decide) (by decide) (by decide) (by decide) (by rw [partsN_one (note39 _), putX_e (note39 _)]; decide) c2.1)))) rfl rfl rfl ?_
  rintro ⟨⟨m33, A33, c33, r33⟩, ⟨⟨P33, p33, u33⟩, ⟨Q33, q33, v33⟩⟩⟩ ⟨⟨hd33, hr33⟩, hp33, hq33⟩
  change J _ ((33, .tuple #[.agg #[I (((0 + 1) : Nat) : Int), .slice P33 (sgC [115, 101, 101, 100] (0 + 1) [121]).length p33, .slice Q33 (sgP [115, 101, 101, 100] 1 (0 + 1)).length q33], I ((0 : Nat) : Int)]) :: _) _ [blk gs [Ptr gk, Ptr gb, I (((0 + 1) + 1 : Nat) : Int)] 139, blk gb (bkC g12 0 (8 / 2) (putX (putX (sX0 0) (note 0)) (note (0 + 1))) A33 c33 false) 130, m33, F, mk, mb, r28, u28, v28, blk g5 [I ((0 : Nat) : Int), .slice P28 (sgC [115, 101, 101, 100] 0 [120]).length p28, .slice Q28 (sgP [115, 101, 101, 100] 1 0).length q28] 75, r33, u33, v33] _
  refine J.y (op_move rfl rfl) rfl rfl rfl ?_
  refine J.y (op_extract (v := .agg #[I (((0 + 1) : Nat) : Int), .slice P33 ((sgC [115, 101, 101, 100] (0 + 1) [121]).length) p33, .slice Q33 ((sgP [115, 101, 101, 100] 1 (0 + 1)).length) q33]) rfl rfl rfl) rfl rfl rfl ?_
  refine J.y (op_extract (v := I ((0 : Nat) : Int)) rfl rfl rfl) rfl rfl rfl ?_
  refine J.e (op_alloc (l := [I 0, .slice none 0 0, .slice none 0 0]) rfl Tryd.zeroValue75 rfl) rfl rfl rfl ?_
  intro g7 _
  change J _ _ _ [blk gs [Ptr gk, Ptr gb, I (((0 + 1) + 1 : Nat) : Int)] 139, blk gb (bkC g12 0 (8 / 2) (putX (putX (sX0 0) (note 0)) (note (0 + 1))) A33 c33 false) 130, m33, F, mk, mb, r28, u28, v28, blk g5 [I ((0 : Nat) : Int), .slice P28 (sgC [115, 101, 101, 100] 0 [120]).length p28, .slice Q28 (sgP [115, 101, 101, 100] 1 0).length q28] 75, r33, u33, v33, blk g7 [I 0, .slice none 0 0, .slice none 0 0] 75] _
  refine J.s (op_storeAll (i := 13) (l := [I 0, .slice none 0 0, .slice none 0 0]) (vs := [I (((0 + 1) : Nat) : Int), .slice P33 ((sgC [115, 101, 101, 100] (0 + 1) [121]).length) p33, .slice Q33 ((sgP [115, 101, 101, 100] 1 (0 + 1)).length) q33]) rfl rfl rfl rfl rfl Tryd.sizeOf75 rfl rfl) rfl rfl (fun _ _ => ?_)
  change J _ _ _ [blk gs [Ptr gk, Ptr gb, I (((0 + 1) + 1 : Nat) : Int)] 139, blk gb (bkC g12 0 (8 / 2) (putX (putX (sX0 0) (note 0)) (note (0 + 1))) A33 c33 false) 130, m33, F, mk, mb, r28, u28, v28, blk g5 [I ((0 : Nat) : Int), .slice P28 (sgC [115, 101, 101, 100] 0 [120]).length p28, .slice Q28 (sgP [115, 101, 101, 100] 1 0).length q28] 75, r33, u33, v33, blk g7 [I (((0 + 1) : Nat) : Int), .slice P33 ((sgC [115, 101, 101, 100] (0 + 1) [121]).length) p33, .slice Q33 ((sgP [115, 101, 101, 100] 1 (0 + 1)).length) q33] 75] _
  refine J.y (op_assign rfl rfl) rfl rfl rfl ?_
  refine J.nil ?_
  refine J.then_n (J.k hK7 ?_)
  refine J.keepE [(3, _), (5, _), (6, _), (7, _), (8, _)] ⟨rfl, rfl, rfl, rfl, rfl, trivial⟩ ?_
  refine J.seq (fun K8 hK8 => ?_)
  refine J.region ?_
  refine J.y (op_move rfl rfl) rfl rfl rfl ?_
  refine J.e (op_call rfl rfl ent36 (Ct.use0 (fun F' hF => ssign_spent F' gs gk gb (0 + 1 + 1) (Cells.blk0.mono (hF (blk gs [Ptr gk, Ptr gb, I ((0 + 1 + 1 : Nat) : Int)] 139) (by simp))) [115, 101, 101, 100] 1 (hk.mono (hF mk (by simp))) (by decide) (by decide) (by decide) [122]))) rfl rfl rfl ?_
  intro g38 _
  refine J.y (op_move rfl rfl) rfl rfl rfl ?_
  refine J.y (op_extract (v := .agg #[I ((0 : Nat) : Int), .slice none 0 0, .slice none 0 0]) rfl rfl rfl) rfl rfl rfl ?_
  refine J.y (op_extract (v := I ((11 : Nat) : Int)) rfl rfl rfl) rfl rfl rfl ?_
  refine J.e (op_alloc (l := [I 0, .slice none 0 0, .slice none 0 0]) rfl Tryd.zeroValue75 rfl) rfl rfl rfl ?_
  intro g9 _
  change J _ _ _ [blk gs [Ptr gk, Ptr gb, I (((0 + 1) + 1 : Nat) : Int)] 139, blk gb (bkC g12 0 (8 / 2) (putX (putX (sX0 0) (note 0)) (note (0 + 1))) A33 c33 false) 130, m33, F, mk, mb, r28, u28, v28, blk g5 [I ((0 : Nat) : Int), .slice P28 (sgC [115, 101, 101, 100] 0 [120]).length p28, .slice Q28 (sgP [115, 101, 101, 100] 1 0).length q28] 75, r33, u33, v33, blk g7 [I (((0 + 1) : Nat) : Int), .slice P33 ((sgC [115, 101, 101, 100] (0 + 1) [121]).length) p33, .slice Q33 ((sgP [115, 101, 101, 100] 1 (0 + 1)).length) q33] 75, blk g9 [I 0, .slice none 0 0, .slice none 0 0] 75] _
  refine J.s (op_storeAll (i := 14) (l := [I 0, .slice none 0 0, .slice none 0 0]) (vs := [I ((0 : Nat) : Int), .slice none 0 0, .slice none 0 0]) rfl rfl rfl rfl rfl Tryd.sizeOf75 rfl rfl) rfl rfl (fun _ _ => ?_)
  change J _ _ _ [blk gs [Ptr gk, Ptr gb, I (((0 + 1) + 1 : Nat) : Int)] 139, blk gb (bkC g12 0 (8 / 2) (putX (putX (sX0 0) (note 0)) (note (0 + 1))) A33 c33 false) 130, m33, F, mk, mb, r28, u28, v28, blk g5 [I ((0 : Nat) : Int), .slice P28 (sgC [115, 101, 101, 100] 0 [120]).length p28, .slice Q28 (sgP [115, 101, 101, 100] 1 0).length q28] 75, r33, u33, v33, blk g7 [I (((0 + 1) : Nat) : Int), .slice P33 ((sgC [115, 101, 101, 100] (0 + 1) [121]).length) p33, .slice Q33 ((sgP [115, 101, 101, 100] 1 (0 + 1)).length) q33] 75, blk g9 [I ((0 : Nat) : Int), .slice none 0 0, .slice none 0 0] 75] _
  refine J.y (op_assign rfl rfl) rfl rfl rfl ?_
  refine J.nil ?_
  refine J.then_n (J.k hK8 ?_)
  refine J.keepE [(3, _), (5, _), (6, _), (7, _), (8, _), (10, _)] ⟨rfl, rfl, rfl, rfl, rfl, rfl, trivial⟩ ?_
  refine J.seq (fun K9 hK9 => ?_)
  refine J.draw [blk g5 [I ((0 : Nat) : Int), .slice P28 (sgC [115, 101, 101, 100] 0 [120]).length p28, .slice Q28 (sgP [115, 101, 101, 100] 1 0).length q28] 75, blk g7 [I (((0 + 1) : Nat) : Int), .slice P33 ((sgC [115, 101, 101, 100] (0 + 1) [121]).length) p33, .slice Q33 ((sgP [115, 101, 101, 100] 1 (0 + 1)).length) q33] 75] [] (.y 0 (.y 1 (.y 2 (.y 3 (.y 4 (.y 5 (.y 6 (.y 7 (.y 8 (.y 9 (.y 10 (.y 11 (.y 12 (.y 13 (.y 14 (.y 15 (.y 16 (.y 17 (.y 18 (.y 19 (.y 20 (.y 21 (.y 23 (.e 22 (.e 24 (.y 25 (.y 26 (.y 27 (.y 29 (.e 28 (.e 30 (.y 31 (.y 32 .nil))))))))))))))))))))))))))))))))) Tryd.wide (by decide +kernel) (by simp) ?_
  refine J.dy rfl (op_move rfl rfl) rfl rfl rfl rfl ?_
  refine J.dy rfl ((op_eql rfl rfl rfl).as (v' := .bool true) (congrArg Value.bool (decide_eq_true (by decide)))) rfl rfl rfl rfl ?_
  refine J.dy rfl (op_move rfl rfl) rfl rfl rfl rfl ?_
  refine J.dyg rfl (op_move rfl rfl) (Wan.is rfl rfl rfl rfl rfl) rfl rfl rfl ?_
  refine J.dyg rfl ((op_eql rfl rfl rfl).as (v' := .bool true) (congrArg Value.bool (decide_eq_true (by decide)))) (Wan.is rfl rfl rfl rfl rfl) rfl rfl rfl ?_
  refine J.dy rfl (op_pickT rfl rfl rfl) rfl rfl rfl rfl ?_
  refine J.dy rfl (op_move rfl rfl) rfl rfl rfl rfl ?_
  refine J.dyg rfl (op_move rfl rfl) (Wan.is rfl rfl rfl rfl rfl) rfl rfl rfl ?_
  refine J.dyg rfl ((op_eql rfl rfl rfl).as (v' := .bool true) (congrArg Value.bool (decide_eq_true (by decide)))) (Wan.is rfl rfl rfl rfl rfl) rfl rfl rfl ?_
  refine J.dy rfl (op_pickT rfl rfl rfl) rfl rfl rfl rfl ?_
  refine J.dy rfl (op_move rfl rfl) rfl rfl rfl rfl ?_
  refine J.dyg rfl (op_fieldAddr (j := 0) rfl rfl Tryd.underlying75 rfl Tryd.sizeOf3 rfl) (Wan.is rfl rfl rfl rfl rfl) rfl rfl rfl ?_
  refine J.dyg rfl (op_loadB 0 (v := I ((0 : Nat) : Int)) rfl rfl rfl Tryd.isAgg3 rfl) (Wan.is rfl rfl rfl rfl rfl) rfl rfl rfl ?_
  refine J.dyg rfl ((op_eql rfl rfl rfl).as (v' := .bool true) (congrArg Value.bool (decide_eq_true (by decide)))) (Wan.is rfl rfl rfl rfl rfl) rfl rfl rfl ?_
  refine J.dy rfl (op_pickT rfl rfl rfl) rfl rfl rfl rfl ?_
  refine J.dy rfl (op_move rfl rfl) rfl rfl rfl rfl ?_
  refine J.dyg rfl (op_fieldAddr (j := 0) rfl rfl Tryd.underlying75 rfl Tryd.sizeOf3 rfl) (Wan.is rfl rfl rfl rfl rfl) rfl rfl rfl ?_
  refine J.dyg rfl (op_loadB 1 (v := I (((0 + 1) : Nat) : Int)) rfl rfl rfl Tryd.isAgg3 rfl) (Wan.is rfl rfl rfl rfl rfl) rfl rfl rfl ?_
  refine J.dyg rfl ((op_eql rfl rfl rfl).as (v' := .bool true) (congrArg Value.bool (decide_eq_true (by decide)))) (Wan.is rfl rfl rfl rfl rfl) rfl rfl rfl ?_
  refine J.dy rfl (op_pickT rfl rfl rfl) rfl rfl rfl rfl ?_
  refine J.dy rfl (op_move rfl rfl) rfl rfl rfl rfl ?_
  refine J.dyg rfl (op_move rfl rfl) (Wan.is rfl rfl rfl rfl rfl) rfl rfl rfl ?_
  refine J.dyg rfl (op_loadBA 0 rfl rfl rfl Tryd.isAgg75 Tryd.sizeOf75 rfl) (Wan.is rfl rfl rfl rfl rfl) rfl rfl rfl ?_
  refine J.deg rfl (op_call rfl rfl ent38 (Ct.use0 (fun F' hF => spub_ct F' gs gk gb (0 + 1 + 1) (Cells.blk0.mono (hF (blk gs [Ptr gk, Ptr gb, I ((0 + 1 + 1 : Nat) : Int)] 139) (by simp))) [115, 101, 101, 100] 1 (hk.mono (hF mk (by simp))) (by decide) (by decide)))) (Wan.is rfl rfl rfl rfl rfl) rfl rfl (by simp) ?_
  intro g63 _
  refine J.deg rfl (op_call rfl rfl ent40 (Ct.use0 (fun F' hF => xverK_ct F' (hK.mono (hF F (by simp))) [115, 101, 101, 100] 1 (0) [120] P28 _ p28 (hp28.sl.mono (hF u28 (by simp))) Q28 _ q28 (hq28.sl.mono (hF v28 (by simp))) (by decide) (by decide) (by decide)))) (Wan.is rfl rfl rfl rfl rfl) rfl rfl (by simp) ?_
  intro g65 _
  refine J.dy rfl (op_pickT rfl rfl rfl) rfl rfl rfl rfl ?_
  refine J.dy rfl (op_move rfl rfl) rfl rfl rfl rfl ?_
  refine J.dyg rfl (op_move rfl rfl) (Wan.is rfl rfl rfl rfl rfl) rfl rfl rfl ?_
  refine J.dyg rfl (op_loadBA 1 rfl rfl rfl Tryd.isAgg75 Tryd.sizeOf75 rfl) (Wan.is rfl rfl rfl rfl rfl) rfl rfl rfl ?_
  refine J.deg rfl (op_call rfl rfl ent38 (Ct.use0 (fun F' hF => spub_ct F' gs gk gb (0 + 1 + 1) (Cells.blk0.mono (hF (blk gs [Ptr gk, Ptr gb, I ((0 + 1 + 1 : Nat) : Int)] 139) (by simp))) [115, 101, 101, 100] 1 (hk.mono (hF mk (by simp))) (by decide) (by decide)))) (Wan.is rfl rfl rfl rfl rfl) rfl rfl (by simp) ?_
  intro g69 _
  refine J.deg rfl (op_call rfl rfl ent40 (Ct.use0 (fun F' hF => xverK_ct F' (hK.mono (hF F (by simp))) [115, 101, 101, 100] 1 (0 + 1) [121] P33 _ p33 (hp33.sl.mono (hF u33 (by simp))) Q33 _ q33 (hq33.sl.mono (hF v33 (by simp))) (by decide) (by decide) (by decide)))) (Wan.is rfl rfl rfl rfl rfl) rfl rfl (by simp) ?_
  intro g71 _
  refine J.dy rfl (op_pickT rfl rfl rfl) rfl rfl rfl rfl ?_
  refine J.dy rfl (op_assign rfl rfl) rfl rfl rfl rfl ?_
  refine J.dnil ?_
  refine J.then_n (J.k hK9 ?_)
  refine J.keepE [(0, _)] ⟨rfl, trivial⟩ ?_
  refine J.ret ?_
  exact J.done hw0 (fun _ _ h => h) (res1 rfl rfl) (retOk () rfl trivial [3] rfl (by decide))

end Go.Proofs.YtnkfapecbmmpeaaDoor
