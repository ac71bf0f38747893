/- A part of the proof: contracts of functions of the program, each for every state of the heaps that it names. -/
import Derived.Test.YtnkfapecbmmpeaaDoorSgn3
import Derived.Test.YtnkfapecbmmpeaaDoorFwR
set_option linter.unusedSimpArgs false
set_option linter.unusedVariables false
namespace Go.Proofs.YtnkfapecbmmpeaaDoor
open Go Go.Fw
set_option maxRecDepth 100000
set_option maxHeartbeats 1000000
theorem ent31 : Enters Tryd.prog 31 := Enters.of Tryd.func31 rfl (by kernel_rfl)
theorem ent37 : Enters Tryd.prog 37 := Enters.of Tryd.func37 rfl (by kernel_rfl)
attribute [local irreducible] Sha.tagged Wo.pub Wo.publicOf Wo.signs Wo.ends Wo.digs Wo.walk Wo.opn Mk.root Mk.path Mk.climb Xm.root sgC sgP note prt

theorem signerOpens_A (F : Hp) (hK : Cells F ⟨1, 0, none⟩ (Sha.K.map W32)) (rec : List UInt8) (z : Int) (hz : z < 0 ∨ 6 < z) : Ct Tryd.prog 5 [Str (rec), I (z)] [F] (fun _ : Unit => .bool true) (fun _ => True) (fun _ => [F]) := by
  refine Ct.walk Tryd.func5 rfl Tryd.ntmps5 rfl (fun w0 hw0 => ?_)
  change J _ [(0, _), (1, _)] _ _ _
  refine J.seq (fun K1 hK1 => ?_)
  refine J.region ?_
  refine J.y (op_assign rfl rfl) rfl rfl rfl ?_
  refine J.nil ?_
  refine J.then_n (J.k hK1 ?_)
  refine J.keepE [(0, _), (1, _)] ⟨rfl, rfl, trivial⟩ ?_
  refine J.seq (fun K2 hK2 => ?_)
  refine J.seq (fun K3 hK3 => ?_)
  refine J.region ?_
  refine J.e (op_call rfl rfl ent31 (Ct.use0 (fun F' hF => speaks11_ct F' (hK.mono (hF F (by simp)))))) rfl rfl rfl ?_
  intro g17 _
  refine J.y (op_not rfl rfl) rfl rfl rfl ?_
  refine J.nil ?_
  refine J.then_n (J.k hK3 ?_)
  refine J.keepE [(0, _), (1, _), (18, _)] ⟨rfl, rfl, rfl, trivial⟩ ?_
  refine J.condF rfl rfl ?_
  refine J.skip ?_
  refine J.then_n (J.k hK2 ?_)
  refine J.keepE [(0, _), (1, _)] ⟨rfl, rfl, trivial⟩ ?_
  refine J.seq (fun K4 hK4 => ?_)
  refine J.region ?_
  refine J.y (op_move rfl rfl) rfl rfl rfl ?_
  refine J.y (op_move rfl rfl) rfl rfl rfl ?_
  refine J.y (op_slen Tryd.underlying9 rfl rfl) rfl rfl rfl ?_
  refine J.y ((op_min rfl rfl rfl).as (v' := I ((min rec.length 5 : Nat) : Int)) (congrArg I (by omega))) rfl rfl rfl ?_
  refine J.y ((op_sslice (a := rec) (l := 0) (h := (min rec.length 5)) Tryd.underlying9 rfl rfl rfl rfl ⟨by first | omega | (simp only [List.length_append, List.length_cons, List.length_nil, List.length_take, List.length_drop] at *; omega), by first | omega | (simp only [List.length_append, List.length_cons, List.length_nil, List.length_take, List.length_drop] at *; omega)⟩).as (v' := Str (rec.take (min rec.length 5))) (congrArg Str List.drop_zero)) rfl rfl rfl ?_
  refine J.y (op_assign rfl rfl) rfl rfl rfl ?_
  refine J.nil ?_
  refine J.then_n (J.k hK4 ?_)
  refine J.keepE [(0, _), (1, _)] ⟨rfl, rfl, trivial⟩ ?_
  refine J.seq (fun K5 hK5 => ?_)
  obtain ⟨r, hrd⟩ : ∃ r, r = rec.take (min rec.length 5) := ⟨_, rfl⟩
  rw [← hrd]
  have hrl : r.length ≤ 5 := by rw [hrd, List.length_take]; omega
  have hok0 : (Dk.new 8).ok := Dk.new_ok (by decide) (by decide)
  have hX0 := hst_new (n := 8) (first := 0) (size := 8 / 2) (by decide) (by decide)
  have c1 := calm_one hok0 rfl rfl rfl (X := (sX0 0)) (s := r) (by omega) (by decide) (by decide) (by decide)
  have hX1 := opens_half (r := r) (by omega)
  obtain ⟨D1, hD1⟩ : ∃ D1, D1 = (wendH (Dk.new 8) (sX0 0) r).1 := ⟨_, rfl⟩
  have c1b := c1.2
  rw [← hD1] at c1b hX1
  obtain ⟨ok1, o1, a1, w1, l1, k1⟩ := c1b
  refine J.region ?_
  refine J.e (op_call rfl rfl ent32 (Ct.use (new := fun x : Nat × Hp => [x.2]) (fun F' _ => new_ok_ct F' 8 (by decide) (by decide)))) rfl rfl rfl ?_
  rintro ⟨g25, m25⟩ hb25
  try dsimp only at hb25
  change J _ ((25, .tuple #[Ptr g25, I 0]) :: _) _ [F, m25] _
  obtain ⟨A, c, B, e, hc, hsL, hsW⟩ := hb25.see
  refine J.y (op_move rfl rfl) rfl rfl rfl ?_
  refine J.y (op_extract (v := Ptr g25) rfl rfl rfl) rfl rfl rfl ?_
  refine J.y (op_extract (v := I ((0 : Nat) : Int)) rfl rfl rfl) rfl rfl rfl ?_
  refine J.y (op_assign rfl rfl) rfl rfl rfl ?_
  refine J.y (op_assign rfl rfl) rfl rfl rfl ?_
  refine J.nil ?_
  refine J.then_n (J.k hK5 ?_)
  refine J.keepE [(0, _), (1, _), (5, _)] ⟨rfl, rfl, rfl, trivial⟩ ?_
  refine J.seq (fun K6 hK6 => ?_)
  refine J.region ?_
  refine J.y (op_move rfl rfl) rfl rfl rfl ?_
  refine J.e (op_call rfl rfl ent33 (Ct.use (new := fun x : Nat × Option Addr × Nat × Hp => [blk x.1 (bkC g25 0 (8 / 2) (sX0 0) x.2.1 x.2.2.1 false) 130, x.2.2.2]) (fun F' hF => by have := bopen_ct F' (hK.mono (hF F (by simp))) g25 (Dk.new 8) hok0 A c B e none 0 (hc.mono (hF m25 (by simp))) (hsL.mono (hF m25 (by simp))) (hsW.mono (hF m25 (by simp))) (by decide) 0 8 (by decide) (by decide) rfl; rw [hX0] at this; exact this))) rfl rfl rfl ?_
  rintro ⟨gb, Ab, cb, mb⟩ hb
  try dsimp only at hb
  change J _ ((30, .tuple #[Ptr gb, I ((0 : Nat) : Int)]) :: _) _ [F, m25, blk gb (bkC g25 0 (8 / 2) (sX0 0) Ab cb false) 130, mb] _
  refine J.y (op_move rfl rfl) rfl rfl rfl ?_
  refine J.y (op_extract (v := Ptr gb) rfl rfl rfl) rfl rfl rfl ?_
  refine J.y (op_extract (v := I ((0 : Nat) : Int)) rfl rfl rfl) rfl rfl rfl ?_
  refine J.y (op_assign rfl rfl) rfl rfl rfl ?_
  refine J.y (op_assign rfl rfl) rfl rfl rfl ?_
  refine J.nil ?_
  refine J.then_n (J.k hK6 ?_)
  refine J.keepE [(0, _), (1, _), (5, _), (7, _)] ⟨rfl, rfl, rfl, rfl, trivial⟩ ?_
  refine J.seq (fun K7 hK7 => ?_)
  refine J.seq (fun K8 hK8 => ?_)
  refine J.perm [2, 1, 0, 3] [blk gb (bkC g25 0 (8 / 2) (sX0 0) Ab cb false) 130, m25, F, mb] rfl (by decide) ?_
  refine J.region ?_
  refine J.y (op_move rfl rfl) rfl rfl rfl ?_
  refine J.y (op_move rfl rfl) rfl rfl rfl ?_
  refine J.e (op_call rfl rfl ent34 (Ct.useA [blk gb (bkC g25 0 (8 / 2) (sX0 0) Ab cb false) 130, m25] [F, mb] (A' := fun x : Hp × Option Addr × Nat × Hp => [blk gb (bkC g25 0 (8 / 2) (putX (sX0 0) r) x.2.1 x.2.2.1 false) 130, x.1]) (new := fun x => [x.2.2.2]) (fun F' hF => putH_good F' m25 (hK.mono (hF F (by simp))) gb g25 0 (8 / 2) (sX0 0) Ab cb (hb.sl.mono (hF mb (by simp))) (Dk.new 8) none 0 hb25 hok0 (Nat.zero_le _) Sl.nil (Nat.zero_le _) r (by omega) (by decide) (by decide) (by decide) (by rw [partsN_one (by omega)]; decide) c1.1))) rfl rfl rfl ?_
  rintro ⟨m35, A35, c35, r35⟩ ⟨hd35, hr35⟩
  change J _ _ _ [blk gb (bkC g25 0 (8 / 2) (putX (sX0 0) r) A35 c35 false) 130, m35, F, mb, r35] _
  rw [← hD1] at hd35
  obtain ⟨A2, c2, B2, e2, hc2, hsL2, hsW2⟩ := hd35.see
  refine J.y ((op_neq rfl rfl rfl).as (v' := .bool false) (congrArg Value.bool (decide_eq_false (by decide)))) rfl rfl rfl ?_
  refine J.nil ?_
  refine J.then_n (J.k hK8 ?_)
  refine J.keepE [(0, _), (1, _), (5, _), (36, _)] ⟨rfl, rfl, rfl, rfl, trivial⟩ ?_
  refine J.condF rfl rfl ?_
  refine J.skip ?_
  refine J.then_n (J.k hK7 ?_)
  refine J.keepE [(0, _), (1, _), (5, _)] ⟨rfl, rfl, rfl, trivial⟩ ?_
  refine J.seq (fun K9 hK9 => ?_)
  refine J.region ?_
  refine J.y (op_move rfl rfl) rfl rfl rfl ?_
  refine J.y (op_assign rfl rfl) rfl rfl rfl ?_
  refine J.nil ?_
  refine J.then_n (J.k hK9 ?_)
  refine J.keepE [(0, _), (5, _), (9, _)] ⟨rfl, rfl, rfl, trivial⟩ ?_
  refine J.cut (X := Unit) (fun ζ => [(0, Str (r)), (5, Ptr g25), (9, I (z))]) (fun ζ => [blk gb (bkC g25 0 (8 / 2) (putX (sX0 0) r) A35 c35 false) 130, m35, F, mb, r35]) (fun ζ => True) (fun K10 hK10 => ?_) ?_
  ·
    refine J.seq (fun K11 hK11 => ?_)
    refine J.region ?_
    refine J.y (op_move rfl rfl) rfl rfl rfl ?_
    refine J.y (op_gtr rfl rfl rfl) rfl rfl rfl ?_
    refine J.y (op_move rfl rfl) rfl rfl rfl ?_
    refine J.split (d := 40) rfl (fun h40 => ?_) (fun h40 => ?_)
    ·
      refine J.yg (Wan.is rfl rfl rfl rfl rfl) (op_move rfl rfl) rfl rfl ?_
      refine J.yg (Wan.is rfl rfl rfl rfl rfl) ((op_leq rfl rfl rfl).as (v' := .bool false) (congrArg Value.bool (decide_eq_false (by omega)))) rfl rfl ?_
      refine J.y (op_pickT rfl rfl rfl) rfl rfl rfl ?_
      refine J.nil ?_
      refine J.then_n (J.k hK11 ?_)
      refine J.keepE [(0, _), (5, _), (9, _), (43, _)] ⟨rfl, rfl, rfl, rfl, trivial⟩ ?_
      refine J.condF rfl rfl ?_
      refine J.skip ?_
      refine J.then_n ?_
      exact J.kk () hK10 (trivial) ⟨rfl, rfl, rfl, trivial⟩ (fun _ h => h)
    ·
      refine J.no (Wan.is rfl rfl rfl rfl rfl) rfl rfl ?_
      refine J.no (Wan.is rfl rfl rfl rfl rfl) rfl rfl ?_
      refine J.y (op_pickF rfl rfl rfl) rfl rfl rfl ?_
      refine J.nil ?_
      refine J.then_n (J.k hK11 ?_)
      refine J.keepE [(0, _), (5, _), (9, _), (43, _)] ⟨rfl, rfl, rfl, rfl, trivial⟩ ?_
      refine J.condF rfl rfl ?_
      refine J.skip ?_
      refine J.then_n ?_
      exact J.kk () hK10 (trivial) ⟨rfl, rfl, rfl, trivial⟩ (fun _ h => h)
  rintro _ _
  refine J.seq (fun K12 hK12 => ?_)
  refine J.region ?_
  refine J.y (op_move rfl rfl) rfl rfl rfl ?_
  refine J.y (op_move rfl rfl) rfl rfl rfl ?_
  refine J.e (op_call rfl rfl ent35 (Ct.use0 (fun F' hF => sopenB_ct F' g25 ((0 : Nat) : Int) ((8 : Nat) : Int) [97] z hz))) rfl rfl rfl ?_
  intro g47 _
  refine J.y (op_move rfl rfl) rfl rfl rfl ?_
  refine J.y (op_extract (v := .pointer none) rfl rfl rfl) rfl rfl rfl ?_
  refine J.y (op_extract (v := I ((1 : Nat) : Int)) rfl rfl rfl) rfl rfl rfl ?_
  refine J.y (op_assign rfl rfl) rfl rfl rfl ?_
  refine J.y (op_assign rfl rfl) rfl rfl rfl ?_
  refine J.nil ?_
  refine J.then_n (J.k hK12 ?_)
  refine J.keepE [(0, _), (5, _), (9, _), (10, _), (11, _)] ⟨rfl, rfl, rfl, rfl, rfl, trivial⟩ ?_
  refine J.seq (fun K13 hK13 => ?_)
  refine J.region ?_
  refine J.y (op_move rfl rfl) rfl rfl rfl ?_
  refine J.e (op_call rfl rfl ent35 (Ct.use0 (fun F' hF => sopenC_ct F' (hK.mono (hF F (by simp))) g25 D1 A2 c2 B2 e2 none 0 (hc2.mono (hF m35 (by simp))) (by rw [l1]; decide) 0 7 (by decide) (by decide) [97] (by decide) 0 (by decide)))) rfl rfl rfl ?_
  intro g52 _
  refine J.y (op_move rfl rfl) rfl rfl rfl ?_
  refine J.y (op_extract (v := .pointer none) rfl rfl rfl) rfl rfl rfl ?_
  refine J.y (op_extract (v := I ((1 : Nat) : Int)) rfl rfl rfl) rfl rfl rfl ?_
  refine J.y (op_assign rfl rfl) rfl rfl rfl ?_
  refine J.y (op_assign rfl rfl) rfl rfl rfl ?_
  refine J.nil ?_
  refine J.then_n (J.k hK13 ?_)
  refine J.keepE [(0, _), (9, _), (10, _), (11, _), (13, _)] ⟨rfl, rfl, rfl, rfl, rfl, trivial⟩ ?_
  refine J.seq (fun K14 hK14 => ?_)
  refine J.region ?_
  refine J.y (op_assign rfl rfl) rfl rfl rfl ?_
  refine J.nil ?_
  refine J.then_n (J.k hK14 ?_)
  refine J.keepE [(0, _), (9, _), (10, _), (11, _), (13, _), (14, _)] ⟨rfl, rfl, rfl, rfl, rfl, rfl, trivial⟩ ?_
  refine J.seq (fun K15 hK15 => ?_)
  refine J.region ?_
  refine J.y (op_move rfl rfl) rfl rfl rfl ?_
  refine J.e (op_call rfl rfl ent36 (Ct.use0 (fun F' hF => ssign_nil F' ([])))) rfl rfl rfl ?_
  intro g57 _
  refine J.y (op_move rfl rfl) rfl rfl rfl ?_
  refine J.y (op_extract (v := .agg #[I ((0 : Nat) : Int), .slice none 0 0, .slice none 0 0]) rfl rfl rfl) rfl rfl rfl ?_
  refine J.y (op_extract (v := I ((1 : Nat) : Int)) rfl rfl rfl) rfl rfl rfl ?_
  refine J.e (op_alloc (l := [I 0, .slice none 0 0, .slice none 0 0]) rfl Tryd.zeroValue75 rfl) rfl rfl rfl ?_
  intro g15 _
  change J _ _ _ [blk gb (bkC g25 0 (8 / 2) (putX (sX0 0) r) A35 c35 false) 130, m35, F, mb, r35, blk g15 [I 0, .slice none 0 0, .slice none 0 0] 75] _
  refine J.s (op_storeAll (i := 5) (l := [I 0, .slice none 0 0, .slice none 0 0]) (vs := [I ((0 : Nat) : Int), .slice none 0 0, .slice none 0 0]) rfl rfl rfl rfl rfl Tryd.sizeOf75 rfl rfl) rfl rfl (fun _ _ => ?_)
  change J _ _ _ [blk gb (bkC g25 0 (8 / 2) (putX (sX0 0) r) A35 c35 false) 130, m35, F, mb, r35, blk g15 [I ((0 : Nat) : Int), .slice none 0 0, .slice none 0 0] 75] _
  refine J.y (op_assign rfl rfl) rfl rfl rfl ?_
  refine J.nil ?_
  refine J.then_n (J.k hK15 ?_)
  refine J.keepE [(0, _), (9, _), (10, _), (11, _), (13, _), (14, _), (16, _)] ⟨rfl, rfl, rfl, rfl, rfl, rfl, rfl, trivial⟩ ?_
  refine J.seq (fun K16 hK16 => ?_)
  refine J.seq (fun K17 hK17 => ?_)
  refine J.region ?_
  refine J.y (op_move rfl rfl) rfl rfl rfl ?_
  refine J.y ((op_neq rfl rfl rfl).as (v' := .bool false) (congrArg Value.bool (decide_eq_false (by decide)))) rfl rfl rfl ?_
  refine J.y (op_move rfl rfl) rfl rfl rfl ?_
  refine J.yg (Wan.is rfl rfl rfl rfl rfl) (op_move rfl rfl) rfl rfl ?_
  refine J.yg (Wan.is rfl rfl rfl rfl rfl) ((op_neq rfl rfl rfl).as (v' := .bool false) (congrArg Value.bool (decide_eq_false (by decide)))) rfl rfl ?_
  refine J.y (op_pickF rfl rfl rfl) rfl rfl rfl ?_
  refine J.y (op_move rfl rfl) rfl rfl rfl ?_
  refine J.yg (Wan.is rfl rfl rfl rfl rfl) (op_move rfl rfl) rfl rfl ?_
  refine J.eg (Wan.is rfl rfl rfl rfl rfl) (op_call rfl rfl ent37 (Ct.use0 (fun F' hF => snext_nil F' ))) rfl rfl ?_
  intro g68 _
  refine J.yg (Wan.is rfl rfl rfl rfl rfl) ((op_neq rfl rfl rfl).as (v' := .bool false) (congrArg Value.bool (decide_eq_false (by decide)))) rfl rfl ?_
  refine J.y (op_pickF rfl rfl rfl) rfl rfl rfl ?_
  refine J.y (op_move rfl rfl) rfl rfl rfl ?_
  refine J.yg (Wan.is rfl rfl rfl rfl rfl) (op_move rfl rfl) rfl rfl ?_
  refine J.eg (Wan.is rfl rfl rfl rfl rfl) (op_call rfl rfl ent38 (Ct.use0 (fun F' hF => spub_nil F' ))) rfl rfl ?_
  intro g73 _
  refine J.yg (Wan.is rfl rfl rfl rfl rfl) (op_buildStruct (l := []) (vs := []) (places := [(0, 1), (1, 1), (2, 1)]) (r := [Str [], Str [], I 0]) rfl rfl rfl Tryd.underlying32 Tryd.zeroValue32 (fun _ => by kernel_rfl) rfl) rfl rfl ?_
  refine J.yg (Wan.is rfl rfl rfl rfl rfl) ((op_neS rfl rfl rfl (by kernel_rfl) (fun w => eqPub 9998 [] [] [] [] 0 0 w)).as (v' := .bool false) (congrArg Value.bool (by simp))) rfl rfl ?_
  refine J.y (op_pickF rfl rfl rfl) rfl rfl rfl ?_
  refine J.nil ?_
  refine J.then_n (J.k hK17 ?_)
  refine J.keepE [(0, _), (9, _), (10, _), (11, _), (76, _)] ⟨rfl, rfl, rfl, rfl, rfl, trivial⟩ ?_
  refine J.condF rfl rfl ?_
  refine J.skip ?_
  refine J.then_n (J.k hK16 ?_)
  refine J.keepE [(0, _), (9, _), (10, _), (11, _)] ⟨rfl, rfl, rfl, rfl, trivial⟩ ?_
  refine J.seq (fun K18 hK18 => ?_)
  refine J.seq (fun K19 hK19 => ?_)
  refine J.region ?_
  refine J.y (op_move rfl rfl) rfl rfl rfl ?_
  refine J.y (op_lss rfl rfl rfl) rfl rfl rfl ?_
  refine J.y (op_move rfl rfl) rfl rfl rfl ?_
  refine J.split (d := 79) rfl (fun h79 => ?_) (fun h79 => ?_)
  ·
    refine J.no (Wan.is rfl rfl rfl rfl rfl) rfl rfl ?_
    refine J.no (Wan.is rfl rfl rfl rfl rfl) rfl rfl ?_
    refine J.y (op_pickT rfl rfl rfl) rfl rfl rfl ?_
    refine J.nil ?_
    refine J.then_n (J.k hK19 ?_)
    refine J.keepE [(0, _), (10, _), (11, _), (82, _)] ⟨rfl, rfl, rfl, rfl, trivial⟩ ?_
    refine J.condT rfl rfl ?_
    refine J.seq (fun K20 hK20 => ?_)
    refine J.region ?_
    refine J.y (op_move rfl rfl) rfl rfl rfl ?_
    refine J.y ((op_eql rfl rfl rfl).as (v' := .bool true) (congrArg Value.bool (decide_eq_true (by decide)))) rfl rfl rfl ?_
    refine J.y (op_assign rfl rfl) rfl rfl rfl ?_
    refine J.nil ?_
    refine J.then_n (J.k hK20 ?_)
    refine J.keepE [(4, _)] ⟨rfl, trivial⟩ ?_
    refine J.ret ?_
    refine J.then_r ?_
    exact J.done hw0 (fun _ _ h => h) (res1 rfl rfl) (retOk () rfl trivial [2] rfl (by decide))
  ·
    refine J.yg (Wan.is rfl rfl rfl rfl rfl) (op_move rfl rfl) rfl rfl ?_
    refine J.yg (Wan.is rfl rfl rfl rfl rfl) ((op_gtr rfl rfl rfl).as (v' := .bool true) (congrArg Value.bool (decide_eq_true (by omega)))) rfl rfl ?_
    refine J.y (op_pickF rfl rfl rfl) rfl rfl rfl ?_
    refine J.nil ?_
    refine J.then_n (J.k hK19 ?_)
    refine J.keepE [(0, _), (10, _), (11, _), (82, _)] ⟨rfl, rfl, rfl, rfl, trivial⟩ ?_
    refine J.condT rfl rfl ?_
    refine J.seq (fun K21 hK21 => ?_)
    refine J.region ?_
    refine J.y (op_move rfl rfl) rfl rfl rfl ?_
    refine J.y ((op_eql rfl rfl rfl).as (v' := .bool true) (congrArg Value.bool (decide_eq_true (by decide)))) rfl rfl rfl ?_
    refine J.y (op_assign rfl rfl) rfl rfl rfl ?_
    refine J.nil ?_
    refine J.then_n (J.k hK21 ?_)
    refine J.keepE [(4, _)] ⟨rfl, trivial⟩ ?_
    refine J.ret ?_
    refine J.then_r ?_
    exact J.done hw0 (fun _ _ h => h) (res1 rfl rfl) (retOk () rfl trivial [2] rfl (by decide))

theorem signerOpens_y (F : Hp) (hK : Cells F ⟨1, 0, none⟩ (Sha.K.map W32)) (rec : List UInt8) (h2 : (rec.take (min rec.length 5)).length = 2) (hN : Nat) (hN6 : hN ≤ 6) : Ct Tryd.prog 5 [Str (rec), I ((hN : Nat) : Int)] [F] (fun _ : Unit => .bool true) (fun _ => True) (fun _ => [F]) := by
  refine Ct.walk Tryd.func5 rfl Tryd.ntmps5 rfl (fun w0 hw0 => ?_)
  change J _ [(0, _), (1, _)] _ _ _
  refine J.seq (fun K1 hK1 => ?_)
  refine J.region ?_
  refine J.y (op_assign rfl rfl) rfl rfl rfl ?_
  refine J.nil ?_
  refine J.then_n (J.k hK1 ?_)
  refine J.keepE [(0, _), (1, _)] ⟨rfl, rfl, trivial⟩ ?_
  refine J.seq (fun K2 hK2 => ?_)
  refine J.seq (fun K3 hK3 => ?_)
  refine J.region ?_
  refine J.e (op_call rfl rfl ent31 (Ct.use0 (fun F' hF => speaks11_ct F' (hK.mono (hF F (by simp)))))) rfl rfl rfl ?_
  intro g17 _
  refine J.y (op_not rfl rfl) rfl rfl rfl ?_
  refine J.nil ?_
  refine J.then_n (J.k hK3 ?_)
  refine J.keepE [(0, _), (1, _), (18, _)] ⟨rfl, rfl, rfl, trivial⟩ ?_
  refine J.condF rfl rfl ?_
  refine J.skip ?_
  refine J.then_n (J.k hK2 ?_)
  refine J.keepE [(0, _), (1, _)] ⟨rfl, rfl, trivial⟩ ?_
  refine J.seq (fun K4 hK4 => ?_)
  refine J.region ?_
  refine J.y (op_move rfl rfl) rfl rfl rfl ?_
  refine J.y (op_move rfl rfl) rfl rfl rfl ?_
  refine J.y (op_slen Tryd.underlying9 rfl rfl) rfl rfl rfl ?_
  refine J.y ((op_min rfl rfl rfl).as (v' := I ((min rec.length 5 : Nat) : Int)) (congrArg I (by omega))) rfl rfl rfl ?_
  refine J.y ((op_sslice (a := rec) (l := 0) (h := (min rec.length 5)) Tryd.underlying9 rfl rfl rfl rfl ⟨by first | omega | (simp only [List.length_append, List.length_cons, List.length_nil, List.length_take, List.length_drop] at *; omega), by first | omega | (simp only [List.length_append, List.length_cons, List.length_nil, List.length_take, List.length_drop] at *; omega)⟩).as (v' := Str (rec.take (min rec.length 5))) (congrArg Str List.drop_zero)) rfl rfl rfl ?_
  refine J.y (op_assign rfl rfl) rfl rfl rfl ?_
  refine J.nil ?_
  refine J.then_n (J.k hK4 ?_)
  refine J.keepE [(0, _), (1, _)] ⟨rfl, rfl, trivial⟩ ?_
  refine J.seq (fun K5 hK5 => ?_)
  obtain ⟨r, hrd⟩ : ∃ r, r = rec.take (min rec.length 5) := ⟨_, rfl⟩
  rw [← hrd]
  rw [← hrd] at h2
  have hrl : r.length ≤ 5 := by rw [hrd, List.length_take]; omega
  have hok0 : (Dk.new 8).ok := Dk.new_ok (by decide) (by decide)
  have hX0 := hst_new (n := 8) (first := 0) (size := 8 / 2) (by decide) (by decide)
  have c1 := calm_one hok0 rfl rfl rfl (X := (sX0 0)) (s := r) (by omega) (by decide) (by decide) (by decide)
  have hX1 := opens_half (r := r) (by omega)
  obtain ⟨D1, hD1⟩ : ∃ D1, D1 = (wendH (Dk.new 8) (sX0 0) r).1 := ⟨_, rfl⟩
  have c1b := c1.2
  rw [← hD1] at c1b hX1
  obtain ⟨ok1, o1, a1, w1, l1, k1⟩ := c1b
  refine J.region ?_
  refine J.e (op_call rfl rfl ent32 (Ct.use (new := fun x : Nat × Hp => [x.2]) (fun F' _ => new_ok_ct F' 8 (by decide) (by decide)))) rfl rfl rfl ?_
  rintro ⟨g25, m25⟩ hb25
  try dsimp only at hb25
  change J _ ((25, .tuple #[Ptr g25, I 0]) :: _) _ [F, m25] _
  obtain ⟨A, c, B, e, hc, hsL, hsW⟩ := hb25.see
  refine J.y (op_move rfl rfl) rfl rfl rfl ?_
  refine J.y (op_extract (v := Ptr g25) rfl rfl rfl) rfl rfl rfl ?_
  refine J.y (op_extract (v := I ((0 : Nat) : Int)) rfl rfl rfl) rfl rfl rfl ?_
  refine J.y (op_assign rfl rfl) rfl rfl rfl ?_
  refine J.y (op_assign rfl rfl) rfl rfl rfl ?_
  refine J.nil ?_
  refine J.then_n (J.k hK5 ?_)
  refine J.keepE [(0, _), (1, _), (5, _)] ⟨rfl, rfl, rfl, trivial⟩ ?_
  refine J.seq (fun K6 hK6 => ?_)
  refine J.region ?_
  refine J.y (op_move rfl rfl) rfl rfl rfl ?_
  refine J.e (op_call rfl rfl ent33 (Ct.use (new := fun x : Nat × Option Addr × Nat × Hp => [blk x.1 (bkC g25 0 (8 / 2) (sX0 0) x.2.1 x.2.2.1 false) 130, x.2.2.2]) (fun F' hF => by have := bopen_ct F' (hK.mono (hF F (by simp))) g25 (Dk.new 8) hok0 A c B e none 0 (hc.mono (hF m25 (by simp))) (hsL.mono (hF m25 (by simp))) (hsW.mono (hF m25 (by simp))) (by decide) 0 8 (by decide) (by decide) rfl; rw [hX0] at this; exact this))) rfl rfl rfl ?_
  rintro ⟨gb, Ab, cb, mb⟩ hb
  try dsimp only at hb
  change J _ ((30, .tuple #[Ptr gb, I ((0 : Nat) : Int)]) :: _) _ [F, m25, blk gb (bkC g25 0 (8 / 2) (sX0 0) Ab cb false) 130, mb] _
  refine J.y (op_move rfl rfl) rfl rfl rfl ?_
  refine J.y (op_extract (v := Ptr gb) rfl rfl rfl) rfl rfl rfl ?_
  refine J.y (op_extract (v := I ((0 : Nat) : Int)) rfl rfl rfl) rfl rfl rfl ?_
  refine J.y (op_assign rfl rfl) rfl rfl rfl ?_
  refine J.y (op_assign rfl rfl) rfl rfl rfl ?_
  refine J.nil ?_
  refine J.then_n (J.k hK6 ?_)
  refine J.keepE [(0, _), (1, _), (5, _), (7, _)] ⟨rfl, rfl, rfl, rfl, trivial⟩ ?_
  refine J.seq (fun K7 hK7 => ?_)
  refine J.seq (fun K8 hK8 => ?_)
  refine J.perm [2, 1, 0, 3] [blk gb (bkC g25 0 (8 / 2) (sX0 0) Ab cb false) 130, m25, F, mb] rfl (by decide) ?_
  refine J.region ?_
  refine J.y (op_move rfl rfl) rfl rfl rfl ?_
  refine J.y (op_move rfl rfl) rfl rfl rfl ?_
  refine J.e (op_call rfl rfl ent34 (Ct.useA [blk gb (bkC g25 0 (8 / 2) (sX0 0) Ab cb false) 130, m25] [F, mb] (A' := fun x : Hp × Option Addr × Nat × Hp => [blk gb (bkC g25 0 (8 / 2) (putX (sX0 0) r) x.2.1 x.2.2.1 false) 130, x.1]) (new := fun x => [x.2.2.2]) (fun F' hF => putH_good F' m25 (hK.mono (hF F (by simp))) gb g25 0 (8 / 2) (sX0 0) Ab cb (hb.sl.mono (hF mb (by simp))) (Dk.new 8) none 0 hb25 hok0 (Nat.zero_le _) Sl.nil (Nat.zero_le _) r (by omega) (by decide) (by decide) (by decide) (by rw [partsN_one (by omega)]; decide) c1.1))) rfl rfl rfl ?_
  rintro ⟨m35, A35, c35, r35⟩ ⟨hd35, hr35⟩
  change J _ _ _ [blk gb (bkC g25 0 (8 / 2) (putX (sX0 0) r) A35 c35 false) 130, m35, F, mb, r35] _
  rw [← hD1] at hd35
  obtain ⟨A2, c2, B2, e2, hc2, hsL2, hsW2⟩ := hd35.see
  refine J.y ((op_neq rfl rfl rfl).as (v' := .bool false) (congrArg Value.bool (decide_eq_false (by decide)))) rfl rfl rfl ?_
  refine J.nil ?_
  refine J.then_n (J.k hK8 ?_)
  refine J.keepE [(0, _), (1, _), (5, _), (36, _)] ⟨rfl, rfl, rfl, rfl, trivial⟩ ?_
  refine J.condF rfl rfl ?_
  refine J.skip ?_
  refine J.then_n (J.k hK7 ?_)
  refine J.keepE [(0, _), (1, _), (5, _)] ⟨rfl, rfl, rfl, trivial⟩ ?_
  refine J.seq (fun K9 hK9 => ?_)
  refine J.region ?_
  refine J.y (op_move rfl rfl) rfl rfl rfl ?_
  refine J.y (op_assign rfl rfl) rfl rfl rfl ?_
  refine J.nil ?_
  refine J.then_n (J.k hK9 ?_)
  refine J.keepE [(0, _), (5, _), (9, _)] ⟨rfl, rfl, rfl, trivial⟩ ?_
  refine J.cut (X := Nat) (fun ζ => [(0, Str (r)), (5, Ptr g25), (9, I ((ζ : Nat) : Int))]) (fun ζ => [blk gb (bkC g25 0 (8 / 2) (putX (sX0 0) r) A35 c35 false) 130, m35, F, mb, r35]) (fun ζ => ζ ≤ 1) (fun K10 hK10 => ?_) ?_
  ·
    refine J.seq (fun K11 hK11 => ?_)
    refine J.region ?_
    refine J.y (op_move rfl rfl) rfl rfl rfl ?_
    refine J.y (op_gtr rfl rfl rfl) rfl rfl rfl ?_
    refine J.y (op_move rfl rfl) rfl rfl rfl ?_
    refine J.split (d := 40) rfl (fun h40 => ?_) (fun h40 => ?_)
    ·
      refine J.yg (Wan.is rfl rfl rfl rfl rfl) (op_move rfl rfl) rfl rfl ?_
      refine J.yg (Wan.is rfl rfl rfl rfl rfl) (op_leq rfl rfl rfl) rfl rfl ?_
      refine J.y (op_pickT rfl rfl rfl) rfl rfl rfl ?_
      refine J.nil ?_
      refine J.then_n (J.k hK11 ?_)
      refine J.keepE [(0, _), (5, _), (9, _), (43, _)] ⟨rfl, rfl, rfl, rfl, trivial⟩ ?_
      refine J.ite rfl (fun h43 => ?_) (fun h43 => ?_)
      ·
        refine J.region ?_
        refine J.y (op_assign rfl rfl) rfl rfl rfl ?_
        refine J.nil ?_
        refine J.then_n ?_
        exact J.kk (1) hK10 ((by omega)) ⟨rfl, rfl, rfl, trivial⟩ (fun _ h => h)
      ·
        refine J.skip ?_
        refine J.then_n ?_
        exact J.kk (hN) hK10 ((by omega)) ⟨rfl, rfl, rfl, trivial⟩ (fun _ h => h)
    ·
      refine J.no (Wan.is rfl rfl rfl rfl rfl) rfl rfl ?_
      refine J.no (Wan.is rfl rfl rfl rfl rfl) rfl rfl ?_
      refine J.y (op_pickF rfl rfl rfl) rfl rfl rfl ?_
      refine J.nil ?_
      refine J.then_n (J.k hK11 ?_)
      refine J.keepE [(0, _), (5, _), (9, _), (43, _)] ⟨rfl, rfl, rfl, rfl, trivial⟩ ?_
      refine J.condF rfl rfl ?_
      refine J.skip ?_
      refine J.then_n ?_
      exact J.kk (hN) hK10 ((by omega)) ⟨rfl, rfl, rfl, trivial⟩ (fun _ h => h)
  rintro kh hkh
  refine J.seq (fun K12 hK12 => ?_)
  refine J.region ?_
  refine J.y (op_move rfl rfl) rfl rfl rfl ?_
  refine J.y (op_move rfl rfl) rfl rfl rfl ?_
  refine J.e (op_call rfl rfl ent35 (Ct.use (new := fun x : (Nat × Hp) × (Nat × Option Addr × Nat × Hp) × Nat => [x.1.2, blk x.2.1.1 (bkC g25 0 (8 / 2) (putX (sX0 0) r) x.2.1.2.1 x.2.1.2.2.1 false) 130, x.2.1.2.2.2, blk x.2.2 [Ptr x.1.1, Ptr x.2.1.1, I ((natB r : Nat) : Int)] 139]) (fun F' hF => sopen_y F' (hK.mono (hF F (by simp))) g25 D1 ok1 A2 c2 B2 e2 none 0 (hc2.mono (hF m35 (by simp))) (hsL2.mono (hF m35 (by simp))) (hsW2.mono (hF m35 (by simp))) (by rw [w1]; decide) 0 8 (by decide) (by rw [l1]; decide) o1 [97] (by decide) kh (by omega) (putX (sX0 0) r) hX1 (show 1 ≤ 1048576 by decide) (show 0 < 1 by decide) r rfl h2))) rfl rfl rfl ?_
  rintro ⟨⟨gk, mk⟩, ⟨gq, Aq, cq, mq⟩, gs⟩ ⟨hk, hq⟩
  change J _ ((47, .tuple #[Ptr gs, I ((0 : Nat) : Int)]) :: _) _ [blk gb (bkC g25 0 (8 / 2) (putX (sX0 0) r) A35 c35 false) 130, m35, F, mb, r35, mk, blk gq (bkC g25 0 (8 / 2) (putX (sX0 0) r) Aq cq false) 130, mq, blk gs [Ptr gk, Ptr gq, I ((natB r : Nat) : Int)] 139] _
  refine J.y (op_move rfl rfl) rfl rfl rfl ?_
  refine J.y (op_extract (v := Ptr gs) rfl rfl rfl) rfl rfl rfl ?_
  refine J.y (op_extract (v := I ((0 : Nat) : Int)) rfl rfl rfl) rfl rfl rfl ?_
  refine J.y (op_assign rfl rfl) rfl rfl rfl ?_
  refine J.y (op_assign rfl rfl) rfl rfl rfl ?_
  refine J.nil ?_
  refine J.then_n (J.k hK12 ?_)
  refine J.keepE [(0, _), (5, _), (9, _), (10, _), (11, _)] ⟨rfl, rfl, rfl, rfl, rfl, trivial⟩ ?_
  refine J.seq (fun K13 hK13 => ?_)
  have hb2 := natB_lt r
  rw [h2] at hb2
  have hu0 := (r.getD 0 0).toNat_lt
  have hu1 := (r.getD 1 0).toNat_lt
  refine J.region ?_
  refine J.y (op_move rfl rfl) rfl rfl rfl ?_
  refine J.e (op_call rfl rfl ent35 (Ct.use0 (fun F' hF => sopenC_ct F' (hK.mono (hF F (by simp))) g25 D1 A2 c2 B2 e2 none 0 (hc2.mono (hF m35 (by simp))) (by rw [l1]; decide) 0 7 (by decide) (by decide) [97] (by decide) 0 (by decide)))) rfl rfl rfl ?_
  intro g52 _
  refine J.y (op_move rfl rfl) rfl rfl rfl ?_
  refine J.y (op_extract (v := .pointer none) rfl rfl rfl) rfl rfl rfl ?_
  refine J.y (op_extract (v := I ((1 : Nat) : Int)) rfl rfl rfl) rfl rfl rfl ?_
  refine J.y (op_assign rfl rfl) rfl rfl rfl ?_
  refine J.y (op_assign rfl rfl) rfl rfl rfl ?_
  refine J.nil ?_
  refine J.then_n (J.k hK13 ?_)
  refine J.keepE [(0, _), (9, _), (10, _), (11, _), (13, _)] ⟨rfl, rfl, rfl, rfl, rfl, trivial⟩ ?_
  refine J.seq (fun K14 hK14 => ?_)
  refine J.region ?_
  refine J.y (op_assign rfl rfl) rfl rfl rfl ?_
  refine J.nil ?_
  refine J.then_n (J.k hK14 ?_)
  refine J.keepE [(0, _), (9, _), (10, _), (11, _), (13, _), (14, _)] ⟨rfl, rfl, rfl, rfl, rfl, rfl, trivial⟩ ?_
  refine J.seq (fun K15 hK15 => ?_)
  refine J.region ?_
  refine J.y (op_move rfl rfl) rfl rfl rfl ?_
  refine J.e (op_call rfl rfl ent36 (Ct.use0 (fun F' hF => ssign_nil F' ([])))) rfl rfl rfl ?_
  intro g57 _
  refine J.y (op_move rfl rfl) rfl rfl rfl ?_
  refine J.y (op_extract (v := .agg #[I ((0 : Nat) : Int), .slice none 0 0, .slice none 0 0]) rfl rfl rfl) rfl rfl rfl ?_
  refine J.y (op_extract (v := I ((1 : Nat) : Int)) rfl rfl rfl) rfl rfl rfl ?_
  refine J.e (op_alloc (l := [I 0, .slice none 0 0, .slice none 0 0]) rfl Tryd.zeroValue75 rfl) rfl rfl rfl ?_
  intro g15 _
  change J _ _ _ [blk gb (bkC g25 0 (8 / 2) (putX (sX0 0) r) A35 c35 false) 130, m35, F, mb, r35, mk, blk gq (bkC g25 0 (8 / 2) (putX (sX0 0) r) Aq cq false) 130, mq, blk gs [Ptr gk, Ptr gq, I ((natB r : Nat) : Int)] 139, blk g15 [I 0, .slice none 0 0, .slice none 0 0] 75] _
  refine J.s (op_storeAll (i := 9) (l := [I 0, .slice none 0 0, .slice none 0 0]) (vs := [I ((0 : Nat) : Int), .slice none 0 0, .slice none 0 0]) rfl rfl rfl rfl rfl Tryd.sizeOf75 rfl rfl) rfl rfl (fun _ _ => ?_)
  change J _ _ _ [blk gb (bkC g25 0 (8 / 2) (putX (sX0 0) r) A35 c35 false) 130, m35, F, mb, r35, mk, blk gq (bkC g25 0 (8 / 2) (putX (sX0 0) r) Aq cq false) 130, mq, blk gs [Ptr gk, Ptr gq, I ((natB r : Nat) : Int)] 139, blk g15 [I ((0 : Nat) : Int), .slice none 0 0, .slice none 0 0] 75] _
  refine J.y (op_assign rfl rfl) rfl rfl rfl ?_
  refine J.nil ?_
  refine J.then_n (J.k hK15 ?_)
  refine J.keepE [(0, _), (9, _), (10, _), (11, _), (13, _), (14, _), (16, _)] ⟨rfl, rfl, rfl, rfl, rfl, rfl, rfl, trivial⟩ ?_
  refine J.seq (fun K16 hK16 => ?_)
  refine J.seq (fun K17 hK17 => ?_)
  refine J.region ?_
  refine J.y (op_move rfl rfl) rfl rfl rfl ?_
  refine J.y ((op_neq rfl rfl rfl).as (v' := .bool false) (congrArg Value.bool (decide_eq_false (by decide)))) rfl rfl rfl ?_
  refine J.y (op_move rfl rfl) rfl rfl rfl ?_
  refine J.yg (Wan.is rfl rfl rfl rfl rfl) (op_move rfl rfl) rfl rfl ?_
  refine J.yg (Wan.is rfl rfl rfl rfl rfl) ((op_neq rfl rfl rfl).as (v' := .bool false) (congrArg Value.bool (decide_eq_false (by decide)))) rfl rfl ?_
  refine J.y (op_pickF rfl rfl rfl) rfl rfl rfl ?_
  refine J.y (op_move rfl rfl) rfl rfl rfl ?_
  refine J.yg (Wan.is rfl rfl rfl rfl rfl) (op_move rfl rfl) rfl rfl ?_
  refine J.eg (Wan.is rfl rfl rfl rfl rfl) (op_call rfl rfl ent37 (Ct.use0 (fun F' hF => snext_nil F' ))) rfl rfl ?_
  intro g68 _
  refine J.yg (Wan.is rfl rfl rfl rfl rfl) ((op_neq rfl rfl rfl).as (v' := .bool false) (congrArg Value.bool (decide_eq_false (by decide)))) rfl rfl ?_
  refine J.y (op_pickF rfl rfl rfl) rfl rfl rfl ?_
  refine J.y (op_move rfl rfl) rfl rfl rfl ?_
  refine J.yg (Wan.is rfl rfl rfl rfl rfl) (op_move rfl rfl) rfl rfl ?_
  refine J.eg (Wan.is rfl rfl rfl rfl rfl) (op_call rfl rfl ent38 (Ct.use0 (fun F' hF => spub_nil F' ))) rfl rfl ?_
  intro g73 _
  refine J.yg (Wan.is rfl rfl rfl rfl rfl) (op_buildStruct (l := []) (vs := []) (places := [(0, 1), (1, 1), (2, 1)]) (r := [Str [], Str [], I 0]) rfl rfl rfl Tryd.underlying32 Tryd.zeroValue32 (fun _ => by kernel_rfl) rfl) rfl rfl ?_
  refine J.yg (Wan.is rfl rfl rfl rfl rfl) ((op_neS rfl rfl rfl (by kernel_rfl) (fun w => eqPub 9998 [] [] [] [] 0 0 w)).as (v' := .bool false) (congrArg Value.bool (by simp))) rfl rfl ?_
  refine J.y (op_pickF rfl rfl rfl) rfl rfl rfl ?_
  refine J.nil ?_
  refine J.then_n (J.k hK17 ?_)
  refine J.keepE [(0, _), (9, _), (10, _), (11, _), (76, _)] ⟨rfl, rfl, rfl, rfl, rfl, trivial⟩ ?_
  refine J.condF rfl rfl ?_
  refine J.skip ?_
  refine J.then_n (J.k hK16 ?_)
  refine J.keepE [(0, _), (9, _), (10, _), (11, _)] ⟨rfl, rfl, rfl, rfl, trivial⟩ ?_
  refine J.seq (fun K18 hK18 => ?_)
  refine J.seq (fun K19 hK19 => ?_)
  refine J.region ?_
  refine J.y (op_move rfl rfl) rfl rfl rfl ?_
  refine J.y ((op_lss rfl rfl rfl).as (v' := .bool false) (congrArg Value.bool (decide_eq_false (by omega)))) rfl rfl rfl ?_
  refine J.y (op_move rfl rfl) rfl rfl rfl ?_
  refine J.yg (Wan.is rfl rfl rfl rfl rfl) (op_move rfl rfl) rfl rfl ?_
  refine J.yg (Wan.is rfl rfl rfl rfl rfl) ((op_gtr rfl rfl rfl).as (v' := .bool false) (congrArg Value.bool (decide_eq_false (by omega)))) rfl rfl ?_
  refine J.y (op_pickF rfl rfl rfl) rfl rfl rfl ?_
  refine J.nil ?_
  refine J.then_n (J.k hK19 ?_)
  refine J.keepE [(0, _), (10, _), (11, _), (82, _)] ⟨rfl, rfl, rfl, rfl, trivial⟩ ?_
  refine J.condF rfl rfl ?_
  refine J.skip ?_
  refine J.then_n (J.k hK18 ?_)
  refine J.keepE [(0, _), (10, _), (11, _)] ⟨rfl, rfl, rfl, trivial⟩ ?_
  refine J.seq (fun K20 hK20 => ?_)
  refine J.seq (fun K21 hK21 => ?_)
  refine J.region ?_
  refine J.y (op_move rfl rfl) rfl rfl rfl ?_
  refine J.y (op_slen Tryd.underlying9 rfl rfl) rfl rfl rfl ?_
  refine J.y ((op_neq rfl rfl rfl).as (v' := .bool false) (congrArg Value.bool (decide_eq_false (by omega)))) rfl rfl rfl ?_
  refine J.nil ?_
  refine J.then_n (J.k hK21 ?_)
  refine J.keepE [(0, _), (10, _), (11, _), (87, _)] ⟨rfl, rfl, rfl, rfl, trivial⟩ ?_
  refine J.condF rfl rfl ?_
  refine J.skip ?_
  refine J.then_n (J.k hK20 ?_)
  refine J.keepE [(0, _), (10, _), (11, _)] ⟨rfl, rfl, rfl, trivial⟩ ?_
  refine J.seq (fun K22 hK22 => ?_)
  refine J.draw [blk gb (bkC g25 0 (8 / 2) (putX (sX0 0) r) A35 c35 false) 130, m35, F, mb, r35, mk, blk gq (bkC g25 0 (8 / 2) (putX (sX0 0) r) Aq cq false) 130, mq, blk gs [Ptr gk, Ptr gq, I ((natB r : Nat) : Int)] 139, blk g15 [I ((0 : Nat) : Int), .slice none 0 0, .slice none 0 0] 75] [] (.y 0 (.y 1 (.y 2 (.y 3 (.y 5 (.y 6 (.y 7 (.y 8 (.y 9 (.y 10 (.y 11 (.y 12 (.e 4 (.y 13 (.y 14 (.y 15 .nil)))))))))))))))) Tryd.wide (by decide +kernel) (by simp) ?_
  refine J.dy rfl (op_move rfl rfl) rfl rfl rfl rfl ?_
  refine J.dy rfl ((op_eql rfl rfl rfl).as (v' := .bool true) (congrArg Value.bool (decide_eq_true (by decide)))) rfl rfl rfl rfl ?_
  refine J.dy rfl (op_move rfl rfl) rfl rfl rfl rfl ?_
  refine J.dyg rfl (op_move rfl rfl) (Wan.is rfl rfl rfl rfl rfl) rfl rfl rfl ?_
  refine J.dyg rfl (op_move rfl rfl) (Wan.is rfl rfl rfl rfl rfl) rfl rfl rfl ?_
  refine J.dyg rfl (op_sindex (c := r.getD 0 0) Tryd.underlying9 rfl rfl rfl (getSome 0 (by first | omega | (simp only [List.length_append, List.length_cons, List.length_nil, List.length_take, List.length_drop] at *; omega)))) (Wan.is rfl rfl rfl rfl rfl) rfl rfl rfl ?_
  refine J.dyg rfl (op_cv_u8_i64 rfl rfl Tryd.underlying5 Tryd.underlying3) (Wan.is rfl rfl rfl rfl rfl) rfl rfl rfl ?_
  refine J.dyg rfl ((op_mul rfl rfl rfl (by first | omega | (simp only [List.length_append, List.length_cons, List.length_nil, List.length_take, List.length_drop] at *; omega))).as (v' := I ((256 * ((r.getD 0 0).toNat) : Nat) : Int)) (congrArg I (by omega))) (Wan.is rfl rfl rfl rfl rfl) rfl rfl rfl ?_
  refine J.dyg rfl (op_move rfl rfl) (Wan.is rfl rfl rfl rfl rfl) rfl rfl rfl ?_
  refine J.dyg rfl (op_sindex (c := r.getD 1 0) Tryd.underlying9 rfl rfl rfl (getSome 0 (by first | omega | (simp only [List.length_append, List.length_cons, List.length_nil, List.length_take, List.length_drop] at *; omega)))) (Wan.is rfl rfl rfl rfl rfl) rfl rfl rfl ?_
  refine J.dyg rfl (op_cv_u8_i64 rfl rfl Tryd.underlying5 Tryd.underlying3) (Wan.is rfl rfl rfl rfl rfl) rfl rfl rfl ?_
  refine J.dyg rfl ((op_add rfl rfl rfl (by first | omega | (simp only [List.length_append, List.length_cons, List.length_nil, List.length_take, List.length_drop] at *; omega))).as (v' := I ((256 * ((r.getD 0 0).toNat) + ((r.getD 1 0).toNat) : Nat) : Int)) (congrArg I (by omega))) (Wan.is rfl rfl rfl rfl rfl) rfl rfl rfl ?_
  refine J.deg rfl (op_call rfl rfl ent37 (Ct.use0 (fun F' hF => snext_ct F' gs gk gq (natB r) (Cells.blk0.mono (hF (blk gs [Ptr gk, Ptr gq, I ((natB r : Nat) : Int)] 139) (by simp)))))) (Wan.is rfl rfl rfl rfl rfl) rfl rfl (by simp) ?_
  intro g98 _
  refine J.dyg rfl ((op_eql rfl rfl rfl).as (v' := .bool true) (congrArg Value.bool (decide_eq_true (by have := natB_two h2; omega)))) (Wan.is rfl rfl rfl rfl rfl) rfl rfl rfl ?_
  refine J.dy rfl (op_pickT rfl rfl rfl) rfl rfl rfl rfl ?_
  refine J.dy rfl (op_assign rfl rfl) rfl rfl rfl rfl ?_
  refine J.dnil ?_
  refine J.then_n (J.k hK22 ?_)
  refine J.keepE [(4, _)] ⟨rfl, trivial⟩ ?_
  refine J.ret ?_
  exact J.done hw0 (fun _ _ h => h) (res1 rfl rfl) (retOk () rfl trivial [2] rfl (by decide))

theorem signerOpens_n (F : Hp) (hK : Cells F ⟨1, 0, none⟩ (Sha.K.map W32)) (rec : List UInt8) (h2 : (rec.take (min rec.length 5)).length ≠ 2) (hN : Nat) (hN6 : hN ≤ 6) : Ct Tryd.prog 5 [Str (rec), I ((hN : Nat) : Int)] [F] (fun _ : Unit => .bool true) (fun _ => True) (fun _ => [F]) := by
  refine Ct.walk Tryd.func5 rfl Tryd.ntmps5 rfl (fun w0 hw0 => ?_)
  change J _ [(0, _), (1, _)] _ _ _
  refine J.seq (fun K1 hK1 => ?_)
  refine J.region ?_
  refine J.y (op_assign rfl rfl) rfl rfl rfl ?_
  refine J.nil ?_
  refine J.then_n (J.k hK1 ?_)
  refine J.keepE [(0, _), (1, _)] ⟨rfl, rfl, trivial⟩ ?_
  refine J.seq (fun K2 hK2 => ?_)
  refine J.seq (fun K3 hK3 => ?_)
  refine J.region ?_
  refine J.e (op_call rfl rfl ent31 (Ct.use0 (fun F' hF => speaks11_ct F' (hK.mono (hF F (by simp)))))) rfl rfl rfl ?_
  intro g17 _
  refine J.y (op_not rfl rfl) rfl rfl rfl ?_
  refine J.nil ?_
  refine J.then_n (J.k hK3 ?_)
  refine J.keepE [(0, _), (1, _), (18, _)] ⟨rfl, rfl, rfl, trivial⟩ ?_
  refine J.condF rfl rfl ?_
  refine J.skip ?_
  refine J.then_n (J.k hK2 ?_)
  refine J.keepE [(0, _), (1, _)] ⟨rfl, rfl, trivial⟩ ?_
  refine J.seq (fun K4 hK4 => ?_)
  refine J.region ?_
  refine J.y (op_move rfl rfl) rfl rfl rfl ?_
  refine J.y (op_move rfl rfl) rfl rfl rfl ?_
  refine J.y (op_slen Tryd.underlying9 rfl rfl) rfl rfl rfl ?_
  refine J.y ((op_min rfl rfl rfl).as (v' := I ((min rec.length 5 : Nat) : Int)) (congrArg I (by omega))) rfl rfl rfl ?_
  refine J.y ((op_sslice (a := rec) (l := 0) (h := (min rec.length 5)) Tryd.underlying9 rfl rfl rfl rfl ⟨by first | omega | (simp only [List.length_append, List.length_cons, List.length_nil, List.length_take, List.length_drop] at *; omega), by first | omega | (simp only [List.length_append, List.length_cons, List.length_nil, List.length_take, List.length_drop] at *; omega)⟩).as (v' := Str (rec.take (min rec.length 5))) (congrArg Str List.drop_zero)) rfl rfl rfl ?_
  refine J.y (op_assign rfl rfl) rfl rfl rfl ?_
  refine J.nil ?_
  refine J.then_n (J.k hK4 ?_)
  refine J.keepE [(0, _), (1, _)] ⟨rfl, rfl, trivial⟩ ?_
  refine J.seq (fun K5 hK5 => ?_)
  obtain ⟨r, hrd⟩ : ∃ r, r = rec.take (min rec.length 5) := ⟨_, rfl⟩
  rw [← hrd]
  rw [← hrd] at h2
  have hrl : r.length ≤ 5 := by rw [hrd, List.length_take]; omega
  have hok0 : (Dk.new 8).ok := Dk.new_ok (by decide) (by decide)
  have hX0 := hst_new (n := 8) (first := 0) (size := 8 / 2) (by decide) (by decide)
  have c1 := calm_one hok0 rfl rfl rfl (X := (sX0 0)) (s := r) (by omega) (by decide) (by decide) (by decide)
  have hX1 := opens_half (r := r) (by omega)
  obtain ⟨D1, hD1⟩ : ∃ D1, D1 = (wendH (Dk.new 8) (sX0 0) r).1 := ⟨_, rfl⟩
  have c1b := c1.2
  rw [← hD1] at c1b hX1
  obtain ⟨ok1, o1, a1, w1, l1, k1⟩ := c1b
  refine J.region ?_
  refine J.e (op_call rfl rfl ent32 (Ct.use (new := fun x : Nat × Hp => [x.2]) (fun F' _ => new_ok_ct F' 8 (by decide) (by decide)))) rfl rfl rfl ?_
  rintro ⟨g25, m25⟩ hb25
  try dsimp only at hb25
  change J _ ((25, .tuple #[Ptr g25, I 0]) :: _) _ [F, m25] _
  obtain ⟨A, c, B, e, hc, hsL, hsW⟩ := hb25.see
  refine J.y (op_move rfl rfl) rfl rfl rfl ?_
  refine J.y (op_extract (v := Ptr g25) rfl rfl rfl) rfl rfl rfl ?_
  refine J.y (op_extract (v := I ((0 : Nat) : Int)) rfl rfl rfl) rfl rfl rfl ?_
  refine J.y (op_assign rfl rfl) rfl rfl rfl ?_
  refine J.y (op_assign rfl rfl) rfl rfl rfl ?_
  refine J.nil ?_
  refine J.then_n (J.k hK5 ?_)
  refine J.keepE [(0, _), (1, _), (5, _)] ⟨rfl, rfl, rfl, trivial⟩ ?_
  refine J.seq (fun K6 hK6 => ?_)
  refine J.region ?_
  refine J.y (op_move rfl rfl) rfl rfl rfl ?_
  refine J.e (op_call rfl rfl ent33 (Ct.use (new := fun x : Nat × Option Addr × Nat × Hp => [blk x.1 (bkC g25 0 (8 / 2) (sX0 0) x.2.1 x.2.2.1 false) 130, x.2.2.2]) (fun F' hF => by have := bopen_ct F' (hK.mono (hF F (by simp))) g25 (Dk.new 8) hok0 A c B e none 0 (hc.mono (hF m25 (by simp))) (hsL.mono (hF m25 (by simp))) (hsW.mono (hF m25 (by simp))) (by decide) 0 8 (by decide) (by decide) rfl; rw [hX0] at this; exact this))) rfl rfl rfl ?_
  rintro ⟨gb, Ab, cb, mb⟩ hb
  try dsimp only at hb
  change J _ ((30, .tuple #[Ptr gb, I ((0 : Nat) : Int)]) :: _) _ [F, m25, blk gb (bkC g25 0 (8 / 2) (sX0 0) Ab cb false) 130, mb] _
  refine J.y (op_move rfl rfl) rfl rfl rfl ?_
  refine J.y (op_extract (v := Ptr gb) rfl rfl rfl) rfl rfl rfl ?_
  refine J.y (op_extract (v := I ((0 : Nat) : Int)) rfl rfl rfl) rfl rfl rfl ?_
  refine J.y (op_assign rfl rfl) rfl rfl rfl ?_
  refine J.y (op_assign rfl rfl) rfl rfl rfl ?_
  refine J.nil ?_
  refine J.then_n (J.k hK6 ?_)
  refine J.keepE [(0, _), (1, _), (5, _), (7, _)] ⟨rfl, rfl, rfl, rfl, trivial⟩ ?_
  refine J.seq (fun K7 hK7 => ?_)
  refine J.seq (fun K8 hK8 => ?_)
  refine J.perm [2, 1, 0, 3] [blk gb (bkC g25 0 (8 / 2) (sX0 0) Ab cb false) 130, m25, F, mb] rfl (by decide) ?_
  refine J.region ?_
  refine J.y (op_move rfl rfl) rfl rfl rfl ?_
  refine J.y (op_move rfl rfl) rfl rfl rfl ?_
  refine J.e (op_call rfl rfl ent34 (Ct.useA [blk gb (bkC g25 0 (8 / 2) (sX0 0) Ab cb false) 130, m25] [F, mb] (A' := fun x : Hp × Option Addr × Nat × Hp => [blk gb (bkC g25 0 (8 / 2) (putX (sX0 0) r) x.2.1 x.2.2.1 false) 130, x.1]) (new := fun x => [x.2.2.2]) (fun F' hF => putH_good F' m25 (hK.mono (hF F (by simp))) gb g25 0 (8 / 2) (sX0 0) Ab cb (hb.sl.mono (hF mb (by simp))) (Dk.new 8) none 0 hb25 hok0 (Nat.zero_le _) Sl.nil (Nat.zero_le _) r (by omega) (by decide) (by decide) (by decide) (by rw [partsN_one (by omega)]; decide) c1.1))) rfl rfl rfl ?_
  rintro ⟨m35, A35, c35, r35⟩ ⟨hd35, hr35⟩
  change J _ _ _ [blk gb (bkC g25 0 (8 / 2) (putX (sX0 0) r) A35 c35 false) 130, m35, F, mb, r35] _
  rw [← hD1] at hd35
  obtain ⟨A2, c2, B2, e2, hc2, hsL2, hsW2⟩ := hd35.see
  refine J.y ((op_neq rfl rfl rfl).as (v' := .bool false) (congrArg Value.bool (decide_eq_false (by decide)))) rfl rfl rfl ?_
  refine J.nil ?_
  refine J.then_n (J.k hK8 ?_)
  refine J.keepE [(0, _), (1, _), (5, _), (36, _)] ⟨rfl, rfl, rfl, rfl, trivial⟩ ?_
  refine J.condF rfl rfl ?_
  refine J.skip ?_
  refine J.then_n (J.k hK7 ?_)
  refine J.keepE [(0, _), (1, _), (5, _)] ⟨rfl, rfl, rfl, trivial⟩ ?_
  refine J.seq (fun K9 hK9 => ?_)
  refine J.region ?_
  refine J.y (op_move rfl rfl) rfl rfl rfl ?_
  refine J.y (op_assign rfl rfl) rfl rfl rfl ?_
  refine J.nil ?_
  refine J.then_n (J.k hK9 ?_)
  refine J.keepE [(0, _), (5, _), (9, _)] ⟨rfl, rfl, rfl, trivial⟩ ?_
  refine J.cut (X := Nat) (fun ζ => [(0, Str (r)), (5, Ptr g25), (9, I ((ζ : Nat) : Int))]) (fun ζ => [blk gb (bkC g25 0 (8 / 2) (putX (sX0 0) r) A35 c35 false) 130, m35, F, mb, r35]) (fun ζ => ζ ≤ 1) (fun K10 hK10 => ?_) ?_
  ·
    refine J.seq (fun K11 hK11 => ?_)
    refine J.region ?_
    refine J.y (op_move rfl rfl) rfl rfl rfl ?_
    refine J.y (op_gtr rfl rfl rfl) rfl rfl rfl ?_
    refine J.y (op_move rfl rfl) rfl rfl rfl ?_
    refine J.split (d := 40) rfl (fun h40 => ?_) (fun h40 => ?_)
    ·
      refine J.yg (Wan.is rfl rfl rfl rfl rfl) (op_move rfl rfl) rfl rfl ?_
      refine J.yg (Wan.is rfl rfl rfl rfl rfl) (op_leq rfl rfl rfl) rfl rfl ?_
      refine J.y (op_pickT rfl rfl rfl) rfl rfl rfl ?_
      refine J.nil ?_
      refine J.then_n (J.k hK11 ?_)
      refine J.keepE [(0, _), (5, _), (9, _), (43, _)] ⟨rfl, rfl, rfl, rfl, trivial⟩ ?_
      refine J.ite rfl (fun h43 => ?_) (fun h43 => ?_)
      ·
        refine J.region ?_
        refine J.y (op_assign rfl rfl) rfl rfl rfl ?_
        refine J.nil ?_
        refine J.then_n ?_
        exact J.kk (1) hK10 ((by omega)) ⟨rfl, rfl, rfl, trivial⟩ (fun _ h => h)
      ·
        refine J.skip ?_
        refine J.then_n ?_
        exact J.kk (hN) hK10 ((by omega)) ⟨rfl, rfl, rfl, trivial⟩ (fun _ h => h)
    ·
      refine J.no (Wan.is rfl rfl rfl rfl rfl) rfl rfl ?_
      refine J.no (Wan.is rfl rfl rfl rfl rfl) rfl rfl ?_
      refine J.y (op_pickF rfl rfl rfl) rfl rfl rfl ?_
      refine J.nil ?_
      refine J.then_n (J.k hK11 ?_)
      refine J.keepE [(0, _), (5, _), (9, _), (43, _)] ⟨rfl, rfl, rfl, rfl, trivial⟩ ?_
      refine J.condF rfl rfl ?_
      refine J.skip ?_
      refine J.then_n ?_
      exact J.kk (hN) hK10 ((by omega)) ⟨rfl, rfl, rfl, trivial⟩ (fun _ h => h)
  rintro kh hkh
  refine J.seq (fun K12 hK12 => ?_)
  refine J.region ?_
  refine J.y (op_move rfl rfl) rfl rfl rfl ?_
  refine J.y (op_move rfl rfl) rfl rfl rfl ?_
  refine J.e (op_call rfl rfl ent35 (Ct.use0 (fun F' hF => sopen_n F' (hK.mono (hF F (by simp))) g25 D1 ok1 A2 c2 B2 e2 none 0 (hc2.mono (hF m35 (by simp))) (hsL2.mono (hF m35 (by simp))) (hsW2.mono (hF m35 (by simp))) (by rw [w1]; decide) 0 8 (by decide) (by rw [l1]; decide) o1 [97] (by decide) kh (by omega) (putX (sX0 0) r) hX1 (show 1 ≤ 1048576 by decide) (show 0 < 1 by decide) r rfl h2))) rfl rfl rfl ?_
  intro g47 _
  refine J.y (op_move rfl rfl) rfl rfl rfl ?_
  refine J.y (op_extract (v := .pointer none) rfl rfl rfl) rfl rfl rfl ?_
  refine J.y (op_extract (v := I ((4 : Nat) : Int)) rfl rfl rfl) rfl rfl rfl ?_
  refine J.y (op_assign rfl rfl) rfl rfl rfl ?_
  refine J.y (op_assign rfl rfl) rfl rfl rfl ?_
  refine J.nil ?_
  refine J.then_n (J.k hK12 ?_)
  refine J.keepE [(0, _), (5, _), (9, _), (10, _), (11, _)] ⟨rfl, rfl, rfl, rfl, rfl, trivial⟩ ?_
  refine J.seq (fun K13 hK13 => ?_)
  refine J.region ?_
  refine J.y (op_move rfl rfl) rfl rfl rfl ?_
  refine J.e (op_call rfl rfl ent35 (Ct.use0 (fun F' hF => sopenC_ct F' (hK.mono (hF F (by simp))) g25 D1 A2 c2 B2 e2 none 0 (hc2.mono (hF m35 (by simp))) (by rw [l1]; decide) 0 7 (by decide) (by decide) [97] (by decide) 0 (by decide)))) rfl rfl rfl ?_
  intro g52 _
  refine J.y (op_move rfl rfl) rfl rfl rfl ?_
  refine J.y (op_extract (v := .pointer none) rfl rfl rfl) rfl rfl rfl ?_
  refine J.y (op_extract (v := I ((1 : Nat) : Int)) rfl rfl rfl) rfl rfl rfl ?_
  refine J.y (op_assign rfl rfl) rfl rfl rfl ?_
  refine J.y (op_assign rfl rfl) rfl rfl rfl ?_
  refine J.nil ?_
  refine J.then_n (J.k hK13 ?_)
  refine J.keepE [(0, _), (9, _), (10, _), (11, _), (13, _)] ⟨rfl, rfl, rfl, rfl, rfl, trivial⟩ ?_
  refine J.seq (fun K14 hK14 => ?_)
  refine J.region ?_
  refine J.y (op_assign rfl rfl) rfl rfl rfl ?_
  refine J.nil ?_
  refine J.then_n (J.k hK14 ?_)
  refine J.keepE [(0, _), (9, _), (10, _), (11, _), (13, _), (14, _)] ⟨rfl, rfl, rfl, rfl, rfl, rfl, trivial⟩ ?_
  refine J.seq (fun K15 hK15 => ?_)
  refine J.region ?_
  refine J.y (op_move rfl rfl) rfl rfl rfl ?_
  refine J.e (op_call rfl rfl ent36 (Ct.use0 (fun F' hF => ssign_nil F' ([])))) rfl rfl rfl ?_
  intro g57 _
  refine J.y (op_move rfl rfl) rfl rfl rfl ?_
  refine J.y (op_extract (v := .agg #[I ((0 : Nat) : Int), .slice none 0 0, .slice none 0 0]) rfl rfl rfl) rfl rfl rfl ?_
  refine J.y (op_extract (v := I ((1 : Nat) : Int)) rfl rfl rfl) rfl rfl rfl ?_
  refine J.e (op_alloc (l := [I 0, .slice none 0 0, .slice none 0 0]) rfl Tryd.zeroValue75 rfl) rfl rfl rfl ?_
  intro g15 _
  change J _ _ _ [blk gb (bkC g25 0 (8 / 2) (putX (sX0 0) r) A35 c35 false) 130, m35, F, mb, r35, blk g15 [I 0, .slice none 0 0, .slice none 0 0] 75] _
  refine J.s (op_storeAll (i := 5) (l := [I 0, .slice none 0 0, .slice none 0 0]) (vs := [I ((0 : Nat) : Int), .slice none 0 0, .slice none 0 0]) rfl rfl rfl rfl rfl Tryd.sizeOf75 rfl rfl) rfl rfl (fun _ _ => ?_)
  change J _ _ _ [blk gb (bkC g25 0 (8 / 2) (putX (sX0 0) r) A35 c35 false) 130, m35, F, mb, r35, blk g15 [I ((0 : Nat) : Int), .slice none 0 0, .slice none 0 0] 75] _
  refine J.y (op_assign rfl rfl) rfl rfl rfl ?_
  refine J.nil ?_
  refine J.then_n (J.k hK15 ?_)
  refine J.keepE [(0, _), (9, _), (10, _), (11, _), (13, _), (14, _), (16, _)] ⟨rfl, rfl, rfl, rfl, rfl, rfl, rfl, trivial⟩ ?_
  refine J.seq (fun K16 hK16 => ?_)
  refine J.seq (fun K17 hK17 => ?_)
  refine J.region ?_
  refine J.y (op_move rfl rfl) rfl rfl rfl ?_
  refine J.y ((op_neq rfl rfl rfl).as (v' := .bool false) (congrArg Value.bool (decide_eq_false (by decide)))) rfl rfl rfl ?_
  refine J.y (op_move rfl rfl) rfl rfl rfl ?_
  refine J.yg (Wan.is rfl rfl rfl rfl rfl) (op_move rfl rfl) rfl rfl ?_
  refine J.yg (Wan.is rfl rfl rfl rfl rfl) ((op_neq rfl rfl rfl).as (v' := .bool false) (congrArg Value.bool (decide_eq_false (by decide)))) rfl rfl ?_
  refine J.y (op_pickF rfl rfl rfl) rfl rfl rfl ?_
  refine J.y (op_move rfl rfl) rfl rfl rfl ?_
  refine J.yg (Wan.is rfl rfl rfl rfl rfl) (op_move rfl rfl) rfl rfl ?_
  refine J.eg (Wan.is rfl rfl rfl rfl rfl) (op_call rfl rfl ent37 (Ct.use0 (fun F' hF => snext_nil F' ))) rfl rfl ?_
  intro g68 _
  refine J.yg (Wan.is rfl rfl rfl rfl rfl) ((op_neq rfl rfl rfl).as (v' := .bool false) (congrArg Value.bool (decide_eq_false (by decide)))) rfl rfl ?_
  refine J.y (op_pickF rfl rfl rfl) rfl rfl rfl ?_
  refine J.y (op_move rfl rfl) rfl rfl rfl ?_
  refine J.yg (Wan.is rfl rfl rfl rfl rfl) (op_move rfl rfl) rfl rfl ?_
  refine J.eg (Wan.is rfl rfl rfl rfl rfl) (op_call rfl rfl ent38 (Ct.use0 (fun F' hF => spub_nil F' ))) rfl rfl ?_
  intro g73 _
  refine J.yg (Wan.is rfl rfl rfl rfl rfl) (op_buildStruct (l := []) (vs := []) (places := [(0, 1), (1, 1), (2, 1)]) (r := [Str [], Str [], I 0]) rfl rfl rfl Tryd.underlying32 Tryd.zeroValue32 (fun _ => by kernel_rfl) rfl) rfl rfl ?_
  refine J.yg (Wan.is rfl rfl rfl rfl rfl) ((op_neS rfl rfl rfl (by kernel_rfl) (fun w => eqPub 9998 [] [] [] [] 0 0 w)).as (v' := .bool false) (congrArg Value.bool (by simp))) rfl rfl ?_
  refine J.y (op_pickF rfl rfl rfl) rfl rfl rfl ?_
  refine J.nil ?_
  refine J.then_n (J.k hK17 ?_)
  refine J.keepE [(0, _), (9, _), (10, _), (11, _), (76, _)] ⟨rfl, rfl, rfl, rfl, rfl, trivial⟩ ?_
  refine J.condF rfl rfl ?_
  refine J.skip ?_
  refine J.then_n (J.k hK16 ?_)
  refine J.keepE [(0, _), (9, _), (10, _), (11, _)] ⟨rfl, rfl, rfl, rfl, trivial⟩ ?_
  refine J.seq (fun K18 hK18 => ?_)
  refine J.seq (fun K19 hK19 => ?_)
  refine J.region ?_
  refine J.y (op_move rfl rfl) rfl rfl rfl ?_
  refine J.y ((op_lss rfl rfl rfl).as (v' := .bool false) (congrArg Value.bool (decide_eq_false (by omega)))) rfl rfl rfl ?_
  refine J.y (op_move rfl rfl) rfl rfl rfl ?_
  refine J.yg (Wan.is rfl rfl rfl rfl rfl) (op_move rfl rfl) rfl rfl ?_
  refine J.yg (Wan.is rfl rfl rfl rfl rfl) ((op_gtr rfl rfl rfl).as (v' := .bool false) (congrArg Value.bool (decide_eq_false (by omega)))) rfl rfl ?_
  refine J.y (op_pickF rfl rfl rfl) rfl rfl rfl ?_
  refine J.nil ?_
  refine J.then_n (J.k hK19 ?_)
  refine J.keepE [(0, _), (10, _), (11, _), (82, _)] ⟨rfl, rfl, rfl, rfl, trivial⟩ ?_
  refine J.condF rfl rfl ?_
  refine J.skip ?_
  refine J.then_n (J.k hK18 ?_)
  refine J.keepE [(0, _), (10, _), (11, _)] ⟨rfl, rfl, rfl, trivial⟩ ?_
  refine J.seq (fun K20 hK20 => ?_)
  refine J.seq (fun K21 hK21 => ?_)
  refine J.region ?_
  refine J.y (op_move rfl rfl) rfl rfl rfl ?_
  refine J.y (op_slen Tryd.underlying9 rfl rfl) rfl rfl rfl ?_
  refine J.y ((op_neq rfl rfl rfl).as (v' := .bool true) (congrArg Value.bool (decide_eq_true (by omega)))) rfl rfl rfl ?_
  refine J.nil ?_
  refine J.then_n (J.k hK21 ?_)
  refine J.keepE [(0, _), (10, _), (11, _), (87, _)] ⟨rfl, rfl, rfl, rfl, trivial⟩ ?_
  refine J.condT rfl rfl ?_
  refine J.seq (fun K22 hK22 => ?_)
  refine J.region ?_
  refine J.y (op_move rfl rfl) rfl rfl rfl ?_
  refine J.y ((op_eql rfl rfl rfl).as (v' := .bool true) (congrArg Value.bool (decide_eq_true (by decide)))) rfl rfl rfl ?_
  refine J.y (op_move rfl rfl) rfl rfl rfl ?_
  refine J.yg (Wan.is rfl rfl rfl rfl rfl) (op_move rfl rfl) rfl rfl ?_
  refine J.yg (Wan.is rfl rfl rfl rfl rfl) ((op_peq Tryd.underlying71 rfl rfl rfl).as (v' := .bool true) rfl) rfl rfl ?_
  refine J.y (op_pickT rfl rfl rfl) rfl rfl rfl ?_
  refine J.y (op_assign rfl rfl) rfl rfl rfl ?_
  refine J.nil ?_
  refine J.then_n (J.k hK22 ?_)
  refine J.keepE [(4, _)] ⟨rfl, trivial⟩ ?_
  refine J.ret ?_
  refine J.then_r ?_
  exact J.done hw0 (fun _ _ h => h) (res1 rfl rfl) (retOk () rfl trivial [2] rfl (by decide))

theorem signerOpens_ct (F : Hp) (hK : Cells F ⟨1, 0, none⟩ (Sha.K.map W32)) (rec : List UInt8) (z : Int) : Ct Tryd.prog 5 [Str rec, I z] [F] (fun _ : Unit => .bool true) (fun _ => True) (fun _ => [F]) := by
  by_cases h : z < 0 ∨ 6 < z
  · exact signerOpens_A F hK rec z h
  · obtain ⟨n, rfl⟩ := Int.eq_ofNat_of_zero_le (show 0 ≤ z by omega)
    by_cases h2 : (rec.take (min rec.length 5)).length = 2
    · exact signerOpens_y F hK rec h2 n (by omega)
    · exact signerOpens_n F hK rec h2 n (by omega)

end Go.Proofs.YtnkfapecbmmpeaaDoor
