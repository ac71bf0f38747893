/- A part of the proof: contracts of functions of the program, each for every state of the heaps that it names. -/
import Derived.Test.YtlopnfgacopkbaaDoorX8
set_option linter.unusedSimpArgs false
set_option linter.unusedVariables false
namespace Go.Proofs.YtlopnfgacopkbaaDoor
open Go Go.Fw
set_option maxRecDepth 100000
set_option maxHeartbeats 1000000
theorem ent12 : Enters Tryd.prog 12 := Enters.of Tryd.func12 rfl (by kernel_rfl)
theorem ent20 : Enters Tryd.prog 20 := Enters.of Tryd.func20 rfl (by kernel_rfl)

theorem xmssSigns_in (F : Hp) (hK : Cells F ⟨0, 0, none⟩ (Sha.K.map W32)) (seed message : List UInt8) (n0 : Int) (b0 : -128 ≤ n0 ∧ n0 ≤ 127) (i : Nat) (hi : (i : Int) < 2 ^ (n0 % 4).toNat) (b1 : (i : Int) ≤ 127) :
    Ct Tryd.prog 3 [Str seed, Str message, .agg #[.int .i8 n0, .int .i8 (i : Int)]] [F] (fun _ : Unit => .bool true) (fun _ => True) (fun _ => [F]) := by
  obtain ⟨sd, hsd⟩ : ∃ y, y = seed.take 20 := ⟨_, rfl⟩
  obtain ⟨mg, hmg⟩ : ∃ y, y = message.take 100 := ⟨_, rfl⟩
  have hsl : sd.length ≤ 20 := by rw [hsd, List.length_take]; omega
  have hml : mg.length ≤ 100 := by rw [hmg, List.length_take]; omega
  obtain ⟨h, hh⟩ : ∃ h, h = (n0 % 4).toNat := ⟨_, rfl⟩
  have hh2 : (h : Int) = n0 % 2 ^ 2 := by omega
  have h3 : h ≤ 3 := by omega
  try rw [← hh] at hi
  have hp64 := Xm.pow_le h (by omega)
  have hcast : ((2 ^ h : Nat) : Int) = 2 ^ h := by simp
  have hpz : (0 : Int) < 2 ^ h := Int.pow_pos (by decide)
  have hin : i < 2 ^ h := by omega
  have hdl := Xm.digest_length (Wo.opn sd) i mg
  refine Ct.walk Tryd.func3 rfl Tryd.ntmps3 rfl (fun w0 => ?_)
  change J _ [(0, _), (1, _), (2, _)] _ _ _
  refine J.seq (fun K1 hK1 => ?_)
  refine J.region ?_
  refine J.e (op_box rfl rfl (l := [.int .i8 n0, .int .i8 (i : Int)]) rfl) rfl rfl rfl ?_
  intro g5 _
  change J _ _ _ [F, blk g5 [.int .i8 n0, .int .i8 (i : Int)] 23] _
  refine J.y (op_assign rfl rfl) rfl rfl rfl ?_
  refine J.nil ?_
  refine J.then_n (J.k hK1 ?_)
  refine J.keepE [(0, _), (1, _), (5, _)] ⟨rfl, rfl, rfl, trivial⟩ ?_
  refine J.seq (fun K2 hK2 => ?_)
  refine J.seq (fun K3 hK3 => ?_)
  refine J.region ?_
  refine J.e (op_call rfl rfl ent12 (Ct.use0 (fun F' hF => speaks08_ct F' (hK.mono (hF _ (by simp)))))) rfl rfl rfl ?_
  intro g16 _
  refine J.y ((op_not rfl rfl).as (v' := .bool false) rfl) rfl rfl rfl ?_
  refine J.nil ?_
  refine J.then_n (J.k hK3 ?_)
  refine J.keepE [(0, _), (1, _), (5, _), (17, _)] ⟨rfl, rfl, rfl, rfl, trivial⟩ ?_
  refine J.condF rfl rfl ?_
  refine J.skip ?_
  refine J.then_n (J.k hK2 ?_)
  refine J.keepE [(0, _), (1, _), (5, _)] ⟨rfl, rfl, rfl, trivial⟩ ?_
  refine J.seq (fun K4 hK4 => ?_)
  refine J.draw [F, blk g5 [.int .i8 n0, .int .i8 (i : Int)] 23] [] (.y 0 (.y 1 (.y 2 (.y 3 (.y 4 (.y 5 (.y 6 (.y 7 (.y 8 (.y 9 (.y 10 (.y 11 .nil)))))))))))) Tryd.wide (by decide +kernel) (by simp) ?_
  refine J.dy rfl (op_move rfl rfl) rfl rfl rfl rfl ?_
  refine J.dy rfl (op_move rfl rfl) rfl rfl rfl rfl ?_
  refine J.dy rfl (op_slen Tryd.underlying9 rfl rfl) rfl rfl rfl rfl ?_
  refine J.dy rfl ((op_min rfl rfl rfl).as (v' := I ((min seed.length 20 : Nat) : Int)) (congrArg I (by omega))) rfl rfl rfl rfl ?_
  refine J.dy rfl ((op_sslice (l := 0) (h := min seed.length 20) Tryd.underlying9 rfl rfl rfl rfl ⟨by omega, by omega⟩).as (congrArg Str ((Sha.take_min _ _).trans hsd.symm))) rfl rfl rfl rfl ?_
  refine J.dy rfl (op_move rfl rfl) rfl rfl rfl rfl ?_
  refine J.dy rfl (op_move rfl rfl) rfl rfl rfl rfl ?_
  refine J.dy rfl (op_slen Tryd.underlying9 rfl rfl) rfl rfl rfl rfl ?_
  refine J.dy rfl ((op_min rfl rfl rfl).as (v' := I ((min message.length 100 : Nat) : Int)) (congrArg I (by omega))) rfl rfl rfl rfl ?_
  refine J.dy rfl ((op_sslice (l := 0) (h := min message.length 100) Tryd.underlying9 rfl rfl rfl rfl ⟨by omega, by omega⟩).as (congrArg Str ((Sha.take_min _ _).trans hmg.symm))) rfl rfl rfl rfl ?_
  refine J.dy rfl (op_assign rfl rfl) rfl rfl rfl rfl ?_
  refine J.dy rfl (op_assign rfl rfl) rfl rfl rfl rfl ?_
  refine J.dnil ?_
  refine J.then_n (J.k hK4 ?_)
  refine J.keepE [(0, _), (1, _), (5, _)] ⟨rfl, rfl, rfl, trivial⟩ ?_
  refine J.seq (fun K5 hK5 => ?_)
  refine J.draw [F, blk g5 [.int .i8 n0, .int .i8 (i : Int)] 23] [] (.y 0 (.y 1 (.y 2 (.y 3 (.y 4 (.y 5 (.y 6 (.y 7 (.y 8 .nil))))))))) Tryd.wide (by decide +kernel) (by simp) ?_
  refine J.dy rfl (op_indexAddrJ (i := 0) (j := 0) rfl rfl rfl Tryd.underlying23 Tryd.sizeOf22 (by decide) (by decide)) rfl rfl rfl rfl ?_
  refine J.dy rfl (op_loadB 1 rfl rfl rfl Tryd.isAgg22 rfl) rfl rfl rfl rfl ?_
  refine J.dy rfl (op_cv_i8_i64 rfl rfl Tryd.underlying22 Tryd.underlying3 b0) rfl rfl rfl rfl ?_
  refine J.dy rfl ((op_maskI 2 rfl rfl rfl (by decide) (by decide)).as (v' := I h) (congrArg I hh2.symm)) rfl rfl rfl rfl ?_
  refine J.dy rfl (op_indexAddrJ (i := 1) (j := 1) rfl rfl rfl Tryd.underlying23 Tryd.sizeOf22 (by decide) (by decide)) rfl rfl rfl rfl ?_
  refine J.dy rfl (op_loadB 1 rfl rfl rfl Tryd.isAgg22 rfl) rfl rfl rfl rfl ?_
  refine J.dy rfl (op_cv_i8_i64 rfl rfl Tryd.underlying22 Tryd.underlying3 (by omega)) rfl rfl rfl rfl ?_
  refine J.dy rfl (op_assign rfl rfl) rfl rfl rfl rfl ?_
  refine J.dy rfl (op_assign rfl rfl) rfl rfl rfl rfl ?_
  refine J.dnil ?_
  refine J.then_n (J.k hK5 ?_)
  refine J.keepE [(0, _), (1, _), (7, _), (8, _)] ⟨rfl, rfl, rfl, rfl, trivial⟩ ?_
  refine J.seq (fun K6 hK6 => ?_)
  refine J.region ?_
  refine J.y (op_move rfl rfl) rfl rfl rfl ?_
  refine J.y (op_move rfl rfl) rfl rfl rfl ?_
  refine J.e (op_call rfl rfl ent13 (Ct.use (fun F' hF => (xnew_ct F' (hK.mono (hF _ (by simp))) sd h (by omega) (by omega)).mono (φ2 := fun x : Nat × Hp => Keyed x.2 x.1 sd h) (val2 := fun x : Nat × Hp => .tuple #[Ptr x.1, I 0]) (ms2 := fun x : Nat × Hp => F' :: [x.2]) id (fun _ _ => rfl) (fun _ h => h) (fun x w0 w _ h => h.pick [1, 0] (by decide))))) rfl rfl rfl ?_
  rintro ⟨gk, mk⟩ hk6
  try dsimp only at hk6
  change J _ ((38, .tuple #[Ptr gk, I 0]) :: _) _ [F, blk g5 [.int .i8 n0, .int .i8 (i : Int)] 23, mk] _
  obtain ⟨AK, cK, hcK, hsK⟩ := hk6.see
  refine J.y (op_move rfl rfl) rfl rfl rfl ?_
  refine J.y (op_extract (v := Ptr gk) rfl rfl rfl) rfl rfl rfl ?_
  refine J.y (op_extract (v := I 0) rfl rfl rfl) rfl rfl rfl ?_
  refine J.y (op_assign rfl rfl) rfl rfl rfl ?_
  refine J.y (op_assign rfl rfl) rfl rfl rfl ?_
  refine J.nil ?_
  refine J.then_n (J.k hK6 ?_)
  refine J.keepE [(0, _), (1, _), (7, _), (8, _), (9, _), (10, _)] ⟨rfl, rfl, rfl, rfl, rfl, rfl, trivial⟩ ?_
  refine J.seq (fun K7 hK7 => ?_)
  refine J.seq (fun K8 hK8 => ?_)
  refine J.draw [F, blk g5 [.int .i8 n0, .int .i8 (i : Int)] 23, mk] [] (.y 0 (.y 1 (.y 2 (.y 3 (.y 5 (.y 6 (.e 4 (.y 7 (.y 8 .nil))))))))) Tryd.wide (by decide +kernel) (by simp) ?_
  refine J.dy rfl (op_move rfl rfl) rfl rfl rfl rfl ?_
  refine J.dy rfl ((op_neq rfl rfl rfl).as (v' := .bool false) (congrArg Value.bool (decide_eq_false (by decide)))) rfl rfl rfl rfl ?_
  refine J.dy rfl (op_move rfl rfl) rfl rfl rfl rfl ?_
  refine J.dyg rfl (op_move rfl rfl) (Wan.is rfl rfl rfl rfl rfl) rfl rfl rfl ?_
  refine J.dyg rfl (op_move rfl rfl) (Wan.is rfl rfl rfl rfl rfl) rfl rfl rfl ?_
  refine J.dyg rfl ((op_shlI (a := 1) (m := h) rfl rfl rfl ⟨by omega, by omega, by rw [Int.one_mul]; omega⟩).as (v' := I ((2 ^ h : Nat) : Int)) (congrArg I (by simp))) (Wan.is rfl rfl rfl rfl rfl) rfl rfl rfl ?_
  refine J.deg rfl (op_call rfl rfl ent14 (Ct.use0 (fun F' hF => xcount_ct F' gk sd (Wo.opn sd) (Xm.root sd h) h AK (2 ^ h) cK (hcK.mono (hF mk (by simp)))))) (Wan.is rfl rfl rfl rfl rfl) rfl rfl (by simp) ?_
  intro g45 _
  refine J.dyg rfl ((op_neq rfl rfl rfl).as (v' := .bool false) (congrArg Value.bool (decide_eq_false (fun h => h rfl)))) (Wan.is rfl rfl rfl rfl rfl) rfl rfl rfl ?_
  refine J.dy rfl (op_pickF rfl rfl rfl) rfl rfl rfl rfl ?_
  refine J.dnil ?_
  refine J.then_n (J.k hK8 ?_)
  refine J.keepE [(0, _), (1, _), (7, _), (8, _), (9, _), (49, _)] ⟨rfl, rfl, rfl, rfl, rfl, rfl, trivial⟩ ?_
  refine J.condF rfl rfl ?_
  refine J.skip ?_
  refine J.then_n (J.k hK7 ?_)
  refine J.keepE [(0, _), (1, _), (7, _), (8, _), (9, _)] ⟨rfl, rfl, rfl, rfl, rfl, trivial⟩ ?_
  refine J.seq (fun K9 hK9 => ?_)
  refine J.region ?_
  refine J.y (op_move rfl rfl) rfl rfl rfl ?_
  refine J.y (op_move rfl rfl) rfl rfl rfl ?_
  refine J.y (op_move rfl rfl) rfl rfl rfl ?_
  refine J.e (op_call rfl rfl ent15 (Ct.use (fun F' hF => xsign_ct F' (hK.mono (hF _ (by simp))) gk sd h AK cK (hcK.mono (hF mk (by simp))) (hsK.mono (hF mk (by simp))) (by omega) (by omega) mg (by omega) i hin))) rfl rfl rfl ?_
  rintro ⟨⟨A1, c1, m1⟩, ⟨A2, c2, m2⟩⟩ ⟨h1, h2⟩
  change J _ ((54, .tuple #[.agg [I i, .slice A1 35 c1, .slice A2 h c2].toArray, I 0]) :: _) _ [F, blk g5 [.int .i8 n0, .int .i8 (i : Int)] 23, mk, m1, m2] _
  dsimp only at h1 h2
  refine J.y (op_move rfl rfl) rfl rfl rfl ?_
  refine J.y (op_extract (v := .agg [I i, .slice A1 35 c1, .slice A2 h c2].toArray) rfl rfl rfl) rfl rfl rfl ?_
  refine J.y (op_extract (v := I 0) rfl rfl rfl) rfl rfl rfl ?_
  refine J.e (op_alloc rfl Tryd.zeroValue32 rfl) rfl rfl rfl ?_
  intro g11 _
  change J _ _ _ [F, blk g5 [.int .i8 n0, .int .i8 (i : Int)] 23, mk, m1, m2, blk g11 _ 32] _
  refine J.s (op_storeAll (l := [I 0, .slice none 0 0, .slice none 0 0]) (i := 5) (vs := [I i, .slice A1 35 c1, .slice A2 h c2]) rfl rfl rfl rfl rfl Tryd.sizeOf32 rfl rfl) rfl rfl (fun _ _ => ?_)
  change J _ _ _ [F, blk g5 [.int .i8 n0, .int .i8 (i : Int)] 23, mk, m1, m2, blk g11 [I i, .slice A1 35 c1, .slice A2 h c2] 32] _
  refine J.y (op_assign rfl rfl) rfl rfl rfl ?_
  refine J.nil ?_
  refine J.then_n (J.k hK9 ?_)
  refine J.keepE [(0, _), (1, _), (7, _), (8, _), (9, _), (11, _), (12, _)] ⟨rfl, rfl, rfl, rfl, rfl, rfl, rfl, trivial⟩ ?_
  refine J.seq (fun K10 hK10 => ?_)
  refine J.seq (fun K11 hK11 => ?_)
  refine J.region ?_
  refine J.y (op_move rfl rfl) rfl rfl rfl ?_
  refine J.y ((op_lss rfl rfl rfl).as (v' := .bool false) (congrArg Value.bool (decide_eq_false (by omega)))) rfl rfl rfl ?_
  refine J.y (op_move rfl rfl) rfl rfl rfl ?_
  refine J.yg (Wan.is rfl rfl rfl rfl rfl) (op_move rfl rfl) rfl rfl ?_
  refine J.yg (Wan.is rfl rfl rfl rfl rfl) (op_move rfl rfl) rfl rfl ?_
  refine J.yg (Wan.is rfl rfl rfl rfl rfl) ((op_shlI (a := 1) (m := h) rfl rfl rfl ⟨by omega, by omega, by rw [Int.one_mul]; omega⟩).as (v' := I ((2 ^ h : Nat) : Int)) (congrArg I (by simp))) rfl rfl ?_
  refine J.yg (Wan.is rfl rfl rfl rfl rfl) ((op_geq rfl rfl rfl).as (v' := .bool false) (congrArg Value.bool (decide_eq_false (by omega)))) rfl rfl ?_
  refine J.y (op_pickF rfl rfl rfl) rfl rfl rfl ?_
  refine J.nil ?_
  refine J.then_n (J.k hK11 ?_)
  refine J.keepE [(0, _), (1, _), (7, _), (8, _), (9, _), (11, _), (12, _), (64, _)] ⟨rfl, rfl, rfl, rfl, rfl, rfl, rfl, rfl, trivial⟩ ?_
  refine J.condF rfl rfl ?_
  refine J.skip ?_
  refine J.then_n (J.k hK10 ?_)
  refine J.keepE [(0, _), (1, _), (7, _), (8, _), (9, _), (11, _), (12, _)] ⟨rfl, rfl, rfl, rfl, rfl, rfl, rfl, trivial⟩ ?_
  refine J.seq (fun K12 hK12 => ?_)
  refine J.region ?_
  refine J.y (op_move rfl rfl) rfl rfl rfl ?_
  refine J.e (op_call rfl rfl ent16 (Ct.use0 (fun F' hF => xpublic_ct F' gk sd (Wo.opn sd) (Xm.root sd h) h AK (2 ^ h) cK (hcK.mono (hF mk (by simp)))))) rfl rfl rfl ?_
  intro g86 _
  refine J.e (op_alloc rfl Tryd.zeroValue36 rfl) rfl rfl rfl ?_
  intro g13 _
  change J _ _ _ [F, blk g5 [.int .i8 n0, .int .i8 (i : Int)] 23, mk, m1, m2, blk g11 [I i, .slice A1 35 c1, .slice A2 h c2] 32, blk g13 _ 36] _
  refine J.s (op_storeAll (l := [Str [], Str [], I 0]) (i := 6) (vs := [Str (Wo.opn sd), Str (Xm.root sd h), I h]) rfl rfl rfl rfl rfl Tryd.sizeOf36 rfl rfl) rfl rfl (fun _ _ => ?_)
  change J _ _ _ [F, blk g5 [.int .i8 n0, .int .i8 (i : Int)] 23, mk, m1, m2, blk g11 [I i, .slice A1 35 c1, .slice A2 h c2] 32, blk g13 [Str (Wo.opn sd), Str (Xm.root sd h), I h] 36] _
  refine J.nil ?_
  refine J.then_n (J.k hK12 ?_)
  refine J.keepE [(0, _), (1, _), (7, _), (8, _), (11, _), (12, _), (13, _)] ⟨rfl, rfl, rfl, rfl, rfl, rfl, rfl, trivial⟩ ?_
  refine J.seq (fun K13 hK13 => ?_)
  refine J.seq (fun K14 hK14 => ?_)
  refine J.draw [F, blk g5 [.int .i8 n0, .int .i8 (i : Int)] 23, mk, m1, m2, blk g11 [I i, .slice A1 35 c1, .slice A2 h c2] 32, blk g13 [Str (Wo.opn sd), Str (Xm.root sd h), I h] 36] [] (.y 0 (.y 1 (.y 2 (.y 3 (.y 4 (.y 5 (.y 6 (.y 7 (.y 8 (.y 9 (.y 10 (.y 11 (.y 12 (.y 13 (.y 14 (.y 15 (.y 16 (.y 17 (.e 18 (.y 19 (.y 20 (.y 21 (.y 22 (.y 23 (.y 24 (.e 25 (.y 26 (.y 27 .nil)))))))))))))))))))))))))))) Tryd.wide (by decide +kernel) (by simp) ?_
  refine J.dy rfl (op_move rfl rfl) rfl rfl rfl rfl ?_
  refine J.dy rfl ((op_neq rfl rfl rfl).as (v' := .bool false) (congrArg Value.bool (decide_eq_false (by decide)))) rfl rfl rfl rfl ?_
  refine J.dy rfl (op_move rfl rfl) rfl rfl rfl rfl ?_
  refine J.dyg rfl (op_fieldAddr (j := 0) rfl rfl Tryd.underlying32 rfl Tryd.sizeOf3 rfl) (Wan.is rfl rfl rfl rfl rfl) rfl rfl rfl ?_
  refine J.dyg rfl (op_loadB 5 rfl rfl rfl Tryd.isAgg3 rfl) (Wan.is rfl rfl rfl rfl rfl) rfl rfl rfl ?_
  refine J.dyg rfl (op_move rfl rfl) (Wan.is rfl rfl rfl rfl rfl) rfl rfl rfl ?_
  refine J.dyg rfl ((op_neq rfl rfl rfl).as (v' := .bool false) (congrArg Value.bool (decide_eq_false (fun h => h rfl)))) (Wan.is rfl rfl rfl rfl rfl) rfl rfl rfl ?_
  refine J.dy rfl (op_pickF rfl rfl rfl) rfl rfl rfl rfl ?_
  refine J.dy rfl (op_move rfl rfl) rfl rfl rfl rfl ?_
  refine J.dyg rfl (op_fieldAddr (j := 2) rfl rfl Tryd.underlying36 rfl Tryd.sizeOf3 rfl) (Wan.is rfl rfl rfl rfl rfl) rfl rfl rfl ?_
  refine J.dyg rfl (op_loadB 6 rfl rfl rfl Tryd.isAgg3 rfl) (Wan.is rfl rfl rfl rfl rfl) rfl rfl rfl ?_
  refine J.dyg rfl (op_move rfl rfl) (Wan.is rfl rfl rfl rfl rfl) rfl rfl rfl ?_
  refine J.dyg rfl ((op_neq rfl rfl rfl).as (v' := .bool false) (congrArg Value.bool (decide_eq_false (fun h => h rfl)))) (Wan.is rfl rfl rfl rfl rfl) rfl rfl rfl ?_
  refine J.dy rfl (op_pickF rfl rfl rfl) rfl rfl rfl rfl ?_
  refine J.dy rfl (op_move rfl rfl) rfl rfl rfl rfl ?_
  refine J.dyg rfl (op_fieldAddr (j := 0) rfl rfl Tryd.underlying36 rfl Tryd.sizeOf9 rfl) (Wan.is rfl rfl rfl rfl rfl) rfl rfl rfl ?_
  refine J.dyg rfl (op_loadB 6 rfl rfl rfl Tryd.isAgg9 rfl) (Wan.is rfl rfl rfl rfl rfl) rfl rfl rfl ?_
  refine J.dyg rfl (op_move rfl rfl) (Wan.is rfl rfl rfl rfl rfl) rfl rfl rfl ?_
  refine J.deg rfl (op_call rfl rfl ent17 (Ct.use0 (fun F' hF => wopen_ct F' (hK.mono (hF _ (by simp))) sd (by omega)))) (Wan.is rfl rfl rfl rfl rfl) rfl rfl (by simp) ?_
  intro g105 _
  refine J.dyg rfl ((op_sne rfl rfl rfl).as (v' := .bool false) (congrArg Value.bool (decide_eq_false (fun h => h rfl)))) (Wan.is rfl rfl rfl rfl rfl) rfl rfl rfl ?_
  refine J.dy rfl (op_pickF rfl rfl rfl) rfl rfl rfl rfl ?_
  refine J.dy rfl (op_move rfl rfl) rfl rfl rfl rfl ?_
  refine J.dyg rfl (op_loadBA 6 rfl rfl rfl Tryd.isAgg36 Tryd.sizeOf36 rfl) (Wan.is rfl rfl rfl rfl rfl) rfl rfl rfl ?_
  refine J.dyg rfl (op_move rfl rfl) (Wan.is rfl rfl rfl rfl rfl) rfl rfl rfl ?_
  refine J.dyg rfl (op_loadBA 5 rfl rfl rfl Tryd.isAgg32 Tryd.sizeOf32 rfl) (Wan.is rfl rfl rfl rfl rfl) rfl rfl rfl ?_
  refine J.deg rfl (op_call rfl rfl ent18 (Ct.use0 (fun F' hF => xverify_ct F' (hK.mono (hF _ (by simp))) (Wo.opn sd) (Xm.root sd h) h mg i A1 c1 (Wo.signs sd i (Wo.digs (Xm.digest (Wo.opn sd) i mg)) 35) (h1.sl.mono (hF m1 (by simp))) (Wo.signs_16 _ _ _ _) A2 c2 (Mk.path (Xm.leaves sd (2 ^ h)) i h) (h2.sl.mono (hF m2 (by simp))) (Mk.path_small2 _ _ _) (by rw [Wo.opn_length]; decide) (by omega) (by omega) hin))) (Wan.is rfl rfl rfl rfl rfl) rfl rfl (by simp) ?_
  intro g112 _
  refine J.dyg rfl ((op_not rfl rfl).as (v' := .bool false) (by rw [Wo.recPub sd i (Xm.digest (Wo.opn sd) i mg) (by omega), decide_eq_true (Mk.climb_root2 sd h i hin)]; rfl)) (Wan.is rfl rfl rfl rfl rfl) rfl rfl rfl ?_
  refine J.dy rfl (op_pickF rfl rfl rfl) rfl rfl rfl rfl ?_
  refine J.dnil ?_
  refine J.then_n (J.k hK14 ?_)
  refine J.keepE [(0, _), (1, _), (7, _), (8, _), (11, _), (13, _), (114, _)] ⟨rfl, rfl, rfl, rfl, rfl, rfl, rfl, trivial⟩ ?_
  refine J.condF rfl rfl ?_
  refine J.skip ?_
  refine J.then_n (J.k hK13 ?_)
  refine J.keepE [(0, _), (1, _), (7, _), (8, _), (11, _), (13, _)] ⟨rfl, rfl, rfl, rfl, rfl, rfl, trivial⟩ ?_
  refine J.seq (fun K15 hK15 => ?_)
  refine J.draw [F, blk g5 [.int .i8 n0, .int .i8 (i : Int)] 23, mk, m1, m2, blk g11 [I i, .slice A1 35 c1, .slice A2 h c2] 32, blk g13 [Str (Wo.opn sd), Str (Xm.root sd h), I h] 36] [] (.y 0 (.y 1 (.y 2 (.y 3 (.y 4 (.y 5 (.y 6 (.y 8 (.y 9 (.e 7 (.e 10 (.y 11 (.y 12 (.y 13 (.y 14 (.y 15 .nil)))))))))))))))) Tryd.wide (by decide +kernel) (by simp) ?_
  refine J.dy rfl (op_fieldAddr (j := 0) rfl rfl Tryd.underlying36 rfl Tryd.sizeOf9 rfl) rfl rfl rfl rfl ?_
  refine J.dy rfl (op_loadB 6 rfl rfl rfl Tryd.isAgg9 rfl) rfl rfl rfl rfl ?_
  refine J.dy rfl (op_move rfl rfl) rfl rfl rfl rfl ?_
  refine J.dy rfl (op_fieldAddr (j := 0) rfl rfl Tryd.underlying36 rfl Tryd.sizeOf9 rfl) rfl rfl rfl rfl ?_
  refine J.dy rfl (op_loadB 6 rfl rfl rfl Tryd.isAgg9 rfl) rfl rfl rfl rfl ?_
  refine J.dy rfl (op_move rfl rfl) rfl rfl rfl rfl ?_
  refine J.dy rfl (op_move rfl rfl) rfl rfl rfl rfl ?_
  refine J.dy rfl (op_fieldAddr (j := 1) rfl rfl Tryd.underlying32 rfl Tryd.sizeOf30 rfl) rfl rfl rfl rfl ?_
  refine J.dy rfl (op_loadB 5 rfl rfl rfl Tryd.isAgg30 rfl) rfl rfl rfl rfl ?_
  refine J.de rfl (op_call rfl rfl ent20 (Ct.use0 (fun F' hF => digest8_ct F' (Wo.opn sd) i mg (by rw [Wo.opn_length]; decide) (by omega) (by omega)))) rfl rfl rfl (by simp) ?_
  intro g123 _
  refine J.de rfl (op_call rfl rfl ent19 (Ct.use0 (fun F' hF => recover_ct F' (hK.mono (hF _ (by simp))) (Wo.opn sd) i (Xm.digest (Wo.opn sd) i mg) A1 c1 (Wo.signs sd i (Wo.digs (Xm.digest (Wo.opn sd) i mg)) 35) (h1.sl.mono (hF m1 (by simp))) (by rw [Wo.opn_length]; decide) (by omega) hdl (Wo.signs_16 _ _ _ _)))) rfl rfl rfl (by simp) ?_
  intro g126 _
  refine J.dy rfl (op_move rfl rfl) rfl rfl rfl rfl ?_
  refine J.dy rfl ((op_extract rfl rfl rfl).as (v' := Str (Wo.pub sd i)) (congrArg Str (Wo.recPub sd i (Xm.digest (Wo.opn sd) i mg) (by omega)))) rfl rfl rfl rfl ?_
  refine J.dy rfl (op_extract (v := I 0) rfl rfl rfl) rfl rfl rfl rfl ?_
  refine J.dy rfl (op_assign rfl rfl) rfl rfl rfl rfl ?_
  refine J.dy rfl (op_assign rfl rfl) rfl rfl rfl rfl ?_
  refine J.dnil ?_
  refine J.then_n (J.k hK15 ?_)
  refine J.keepE [(0, _), (7, _), (8, _), (11, _), (13, _), (14, _), (15, _)] ⟨rfl, rfl, rfl, rfl, rfl, rfl, rfl, trivial⟩ ?_
  refine J.seq (fun K16 hK16 => ?_)
  refine J.draw [F, blk g5 [.int .i8 n0, .int .i8 (i : Int)] 23, mk, m1, m2, blk g11 [I i, .slice A1 35 c1, .slice A2 h c2] 32, blk g13 [Str (Wo.opn sd), Str (Xm.root sd h), I h] 36] [] (.y 0 (.y 1 (.y 2 (.y 3 (.y 4 (.y 5 (.e 6 (.y 7 (.y 8 (.y 9 (.y 10 (.y 11 (.y 12 (.y 13 (.y 15 (.y 16 (.e 14 (.y 17 (.y 18 (.y 19 (.y 20 (.y 21 (.y 22 (.y 23 (.y 24 (.y 25 (.y 26 .nil))))))))))))))))))))))))))) Tryd.wide (by decide +kernel) (by simp) ?_
  refine J.dy rfl (op_move rfl rfl) rfl rfl rfl rfl ?_
  refine J.dy rfl ((op_eql rfl rfl rfl).as (v' := .bool true) (congrArg Value.bool (decide_eq_true (by decide)))) rfl rfl rfl rfl ?_
  refine J.dy rfl (op_move rfl rfl) rfl rfl rfl rfl ?_
  refine J.dyg rfl (op_move rfl rfl) (Wan.is rfl rfl rfl rfl rfl) rfl rfl rfl ?_
  refine J.dyg rfl (op_move rfl rfl) (Wan.is rfl rfl rfl rfl rfl) rfl rfl rfl ?_
  refine J.dyg rfl (op_move rfl rfl) (Wan.is rfl rfl rfl rfl rfl) rfl rfl rfl ?_
  refine J.deg rfl (op_call rfl rfl ent21 (Ct.use0 (fun F' hF => wpub_ct F' (hK.mono (hF _ (by simp))) sd i (by omega) (by omega)))) (Wan.is rfl rfl rfl rfl rfl) rfl rfl (by simp) ?_
  intro g135 _
  refine J.dyg rfl ((op_seq rfl rfl rfl).as (v' := .bool true) (congrArg Value.bool (decide_eq_true (rfl)))) (Wan.is rfl rfl rfl rfl rfl) rfl rfl rfl ?_
  refine J.dy rfl (op_pickT rfl rfl rfl) rfl rfl rfl rfl ?_
  refine J.dy rfl (op_move rfl rfl) rfl rfl rfl rfl ?_
  refine J.dyg rfl (op_move rfl rfl) (Wan.is rfl rfl rfl rfl rfl) rfl rfl rfl ?_
  refine J.dyg rfl (op_move rfl rfl) (Wan.is rfl rfl rfl rfl rfl) rfl rfl rfl ?_
  refine J.dyg rfl (op_fieldAddr (j := 2) rfl rfl Tryd.underlying32 rfl Tryd.sizeOf30 rfl) (Wan.is rfl rfl rfl rfl rfl) rfl rfl rfl ?_
  refine J.dyg rfl (op_loadB 5 rfl rfl rfl Tryd.isAgg30 rfl) (Wan.is rfl rfl rfl rfl rfl) rfl rfl rfl ?_
  refine J.dyg rfl (op_fieldAddr (j := 1) rfl rfl Tryd.underlying36 rfl Tryd.sizeOf9 rfl) (Wan.is rfl rfl rfl rfl rfl) rfl rfl rfl ?_
  refine J.dyg rfl (op_loadB 6 rfl rfl rfl Tryd.isAgg9 rfl) (Wan.is rfl rfl rfl rfl rfl) rfl rfl rfl ?_
  refine J.deg rfl (op_call rfl rfl ent22 (Ct.use0 (fun F' hF => climb_ct F' (hK.mono (hF _ (by simp))) (Wo.pub sd i) i A2 h c2 (Mk.path (Xm.leaves sd (2 ^ h)) i h) (h2.sl.mono (hF m2 (by simp))) (by rw [Xm.pub_length]; decide) (Mk.path_small2 _ _ _) (by omega) (by omega)))) (Wan.is rfl rfl rfl rfl rfl) rfl rfl (by simp) ?_
  intro g143 _
  refine J.dyg rfl ((op_seq rfl rfl rfl).as (v' := .bool true) (congrArg Value.bool (decide_eq_true (Mk.climb_root2 sd h i hin)))) (Wan.is rfl rfl rfl rfl rfl) rfl rfl rfl ?_
  refine J.dy rfl (op_pickT rfl rfl rfl) rfl rfl rfl rfl ?_
  refine J.dy rfl (op_move rfl rfl) rfl rfl rfl rfl ?_
  refine J.dyg rfl (op_fieldAddr (j := 2) rfl rfl Tryd.underlying32 rfl Tryd.sizeOf30 rfl) (Wan.is rfl rfl rfl rfl rfl) rfl rfl rfl ?_
  refine J.dyg rfl (op_loadB 5 rfl rfl rfl Tryd.isAgg30 rfl) (Wan.is rfl rfl rfl rfl rfl) rfl rfl rfl ?_
  refine J.dyg rfl (op_len Tryd.underlying30 rfl rfl) (Wan.is rfl rfl rfl rfl rfl) rfl rfl rfl ?_
  refine J.dyg rfl (op_move rfl rfl) (Wan.is rfl rfl rfl rfl rfl) rfl rfl rfl ?_
  refine J.dyg rfl ((op_eql rfl rfl rfl).as (v' := .bool true) (congrArg Value.bool (decide_eq_true (rfl)))) (Wan.is rfl rfl rfl rfl rfl) rfl rfl rfl ?_
  refine J.dy rfl (op_pickT rfl rfl rfl) rfl rfl rfl rfl ?_
  refine J.dy rfl (op_assign rfl rfl) rfl rfl rfl rfl ?_
  refine J.dnil ?_
  refine J.then_n (J.k hK16 ?_)
  refine J.keepE [(6, _)] ⟨rfl, trivial⟩ ?_
  refine J.ret ?_
  exact J.done (fun _ _ h => h) (res1 rfl rfl) (retOk () rfl trivial [0] rfl (by decide))

theorem xmssSigns_low (F : Hp) (hK : Cells F ⟨0, 0, none⟩ (Sha.K.map W32)) (seed message : List UInt8) (n0 : Int) (b0 : -128 ≤ n0 ∧ n0 ≤ 127) (n1 : Int) (b1 : -128 ≤ n1 ∧ n1 ≤ 127) (hi : n1 < 0) :
    Ct Tryd.prog 3 [Str seed, Str message, .agg #[.int .i8 n0, .int .i8 n1]] [F] (fun _ : Unit => .bool true) (fun _ => True) (fun _ => [F]) := by
  obtain ⟨sd, hsd⟩ : ∃ y, y = seed.take 20 := ⟨_, rfl⟩
  obtain ⟨mg, hmg⟩ : ∃ y, y = message.take 100 := ⟨_, rfl⟩
  have hsl : sd.length ≤ 20 := by rw [hsd, List.length_take]; omega
  have hml : mg.length ≤ 100 := by rw [hmg, List.length_take]; omega
  obtain ⟨h, hh⟩ : ∃ h, h = (n0 % 4).toNat := ⟨_, rfl⟩
  have hh2 : (h : Int) = n0 % 2 ^ 2 := by omega
  have h3 : h ≤ 3 := by omega
  try rw [← hh] at hi
  have hp64 := Xm.pow_le h (by omega)
  have hcast : ((2 ^ h : Nat) : Int) = 2 ^ h := by simp
  have hpz : (0 : Int) < 2 ^ h := Int.pow_pos (by decide)
  refine Ct.walk Tryd.func3 rfl Tryd.ntmps3 rfl (fun w0 => ?_)
  change J _ [(0, _), (1, _), (2, _)] _ _ _
  refine J.seq (fun K1 hK1 => ?_)
  refine J.region ?_
  refine J.e (op_box rfl rfl (l := [.int .i8 n0, .int .i8 n1]) rfl) rfl rfl rfl ?_
  intro g5 _
  change J _ _ _ [F, blk g5 [.int .i8 n0, .int .i8 n1] 23] _
  refine J.y (op_assign rfl rfl) rfl rfl rfl ?_
  refine J.nil ?_
  refine J.then_n (J.k hK1 ?_)
  refine J.keepE [(0, _), (1, _), (5, _)] ⟨rfl, rfl, rfl, trivial⟩ ?_
  refine J.seq (fun K2 hK2 => ?_)
  refine J.seq (fun K3 hK3 => ?_)
  refine J.region ?_
  refine J.e (op_call rfl rfl ent12 (Ct.use0 (fun F' hF => speaks08_ct F' (hK.mono (hF _ (by simp)))))) rfl rfl rfl ?_
  intro g16 _
  refine J.y ((op_not rfl rfl).as (v' := .bool false) rfl) rfl rfl rfl ?_
  refine J.nil ?_
  refine J.then_n (J.k hK3 ?_)
  refine J.keepE [(0, _), (1, _), (5, _), (17, _)] ⟨rfl, rfl, rfl, rfl, trivial⟩ ?_
  refine J.condF rfl rfl ?_
  refine J.skip ?_
  refine J.then_n (J.k hK2 ?_)
  refine J.keepE [(0, _), (1, _), (5, _)] ⟨rfl, rfl, rfl, trivial⟩ ?_
  refine J.seq (fun K4 hK4 => ?_)
  refine J.draw [F, blk g5 [.int .i8 n0, .int .i8 n1] 23] [] (.y 0 (.y 1 (.y 2 (.y 3 (.y 4 (.y 5 (.y 6 (.y 7 (.y 8 (.y 9 (.y 10 (.y 11 .nil)))))))))))) Tryd.wide (by decide +kernel) (by simp) ?_
  refine J.dy rfl (op_move rfl rfl) rfl rfl rfl rfl ?_
  refine J.dy rfl (op_move rfl rfl) rfl rfl rfl rfl ?_
  refine J.dy rfl (op_slen Tryd.underlying9 rfl rfl) rfl rfl rfl rfl ?_
  refine J.dy rfl ((op_min rfl rfl rfl).as (v' := I ((min seed.length 20 : Nat) : Int)) (congrArg I (by omega))) rfl rfl rfl rfl ?_
  refine J.dy rfl ((op_sslice (l := 0) (h := min seed.length 20) Tryd.underlying9 rfl rfl rfl rfl ⟨by omega, by omega⟩).as (congrArg Str ((Sha.take_min _ _).trans hsd.symm))) rfl rfl rfl rfl ?_
  refine J.dy rfl (op_move rfl rfl) rfl rfl rfl rfl ?_
  refine J.dy rfl (op_move rfl rfl) rfl rfl rfl rfl ?_
  refine J.dy rfl (op_slen Tryd.underlying9 rfl rfl) rfl rfl rfl rfl ?_
  refine J.dy rfl ((op_min rfl rfl rfl).as (v' := I ((min message.length 100 : Nat) : Int)) (congrArg I (by omega))) rfl rfl rfl rfl ?_
  refine J.dy rfl ((op_sslice (l := 0) (h := min message.length 100) Tryd.underlying9 rfl rfl rfl rfl ⟨by omega, by omega⟩).as (congrArg Str ((Sha.take_min _ _).trans hmg.symm))) rfl rfl rfl rfl ?_
  refine J.dy rfl (op_assign rfl rfl) rfl rfl rfl rfl ?_
  refine J.dy rfl (op_assign rfl rfl) rfl rfl rfl rfl ?_
  refine J.dnil ?_
  refine J.then_n (J.k hK4 ?_)
  refine J.keepE [(0, _), (1, _), (5, _)] ⟨rfl, rfl, rfl, trivial⟩ ?_
  refine J.seq (fun K5 hK5 => ?_)
  refine J.draw [F, blk g5 [.int .i8 n0, .int .i8 n1] 23] [] (.y 0 (.y 1 (.y 2 (.y 3 (.y 4 (.y 5 (.y 6 (.y 7 (.y 8 .nil))))))))) Tryd.wide (by decide +kernel) (by simp) ?_
  refine J.dy rfl (op_indexAddrJ (i := 0) (j := 0) rfl rfl rfl Tryd.underlying23 Tryd.sizeOf22 (by decide) (by decide)) rfl rfl rfl rfl ?_
  refine J.dy rfl (op_loadB 1 rfl rfl rfl Tryd.isAgg22 rfl) rfl rfl rfl rfl ?_
  refine J.dy rfl (op_cv_i8_i64 rfl rfl Tryd.underlying22 Tryd.underlying3 b0) rfl rfl rfl rfl ?_
  refine J.dy rfl ((op_maskI 2 rfl rfl rfl (by decide) (by decide)).as (v' := I h) (congrArg I hh2.symm)) rfl rfl rfl rfl ?_
  refine J.dy rfl (op_indexAddrJ (i := 1) (j := 1) rfl rfl rfl Tryd.underlying23 Tryd.sizeOf22 (by decide) (by decide)) rfl rfl rfl rfl ?_
  refine J.dy rfl (op_loadB 1 rfl rfl rfl Tryd.isAgg22 rfl) rfl rfl rfl rfl ?_
  refine J.dy rfl (op_cv_i8_i64 rfl rfl Tryd.underlying22 Tryd.underlying3 (by omega)) rfl rfl rfl rfl ?_
  refine J.dy rfl (op_assign rfl rfl) rfl rfl rfl rfl ?_
  refine J.dy rfl (op_assign rfl rfl) rfl rfl rfl rfl ?_
  refine J.dnil ?_
  refine J.then_n (J.k hK5 ?_)
  refine J.keepE [(0, _), (1, _), (7, _), (8, _)] ⟨rfl, rfl, rfl, rfl, trivial⟩ ?_
  refine J.seq (fun K6 hK6 => ?_)
  refine J.region ?_
  refine J.y (op_move rfl rfl) rfl rfl rfl ?_
  refine J.y (op_move rfl rfl) rfl rfl rfl ?_
  refine J.e (op_call rfl rfl ent13 (Ct.use (fun F' hF => (xnew_ct F' (hK.mono (hF _ (by simp))) sd h (by omega) (by omega)).mono (φ2 := fun x : Nat × Hp => Keyed x.2 x.1 sd h) (val2 := fun x : Nat × Hp => .tuple #[Ptr x.1, I 0]) (ms2 := fun x : Nat × Hp => F' :: [x.2]) id (fun _ _ => rfl) (fun _ h => h) (fun x w0 w _ h => h.pick [1, 0] (by decide))))) rfl rfl rfl ?_
  rintro ⟨gk, mk⟩ hk6
  try dsimp only at hk6
  change J _ ((38, .tuple #[Ptr gk, I 0]) :: _) _ [F, blk g5 [.int .i8 n0, .int .i8 n1] 23, mk] _
  obtain ⟨AK, cK, hcK, hsK⟩ := hk6.see
  refine J.y (op_move rfl rfl) rfl rfl rfl ?_
  refine J.y (op_extract (v := Ptr gk) rfl rfl rfl) rfl rfl rfl ?_
  refine J.y (op_extract (v := I 0) rfl rfl rfl) rfl rfl rfl ?_
  refine J.y (op_assign rfl rfl) rfl rfl rfl ?_
  refine J.y (op_assign rfl rfl) rfl rfl rfl ?_
  refine J.nil ?_
  refine J.then_n (J.k hK6 ?_)
  refine J.keepE [(0, _), (1, _), (7, _), (8, _), (9, _), (10, _)] ⟨rfl, rfl, rfl, rfl, rfl, rfl, trivial⟩ ?_
  refine J.seq (fun K7 hK7 => ?_)
  refine J.seq (fun K8 hK8 => ?_)
  refine J.draw [F, blk g5 [.int .i8 n0, .int .i8 n1] 23, mk] [] (.y 0 (.y 1 (.y 2 (.y 3 (.y 5 (.y 6 (.e 4 (.y 7 (.y 8 .nil))))))))) Tryd.wide (by decide +kernel) (by simp) ?_
  refine J.dy rfl (op_move rfl rfl) rfl rfl rfl rfl ?_
  refine J.dy rfl ((op_neq rfl rfl rfl).as (v' := .bool false) (congrArg Value.bool (decide_eq_false (by decide)))) rfl rfl rfl rfl ?_
  refine J.dy rfl (op_move rfl rfl) rfl rfl rfl rfl ?_
  refine J.dyg rfl (op_move rfl rfl) (Wan.is rfl rfl rfl rfl rfl) rfl rfl rfl ?_
  refine J.dyg rfl (op_move rfl rfl) (Wan.is rfl rfl rfl rfl rfl) rfl rfl rfl ?_
  refine J.dyg rfl ((op_shlI (a := 1) (m := h) rfl rfl rfl ⟨by omega, by omega, by rw [Int.one_mul]; omega⟩).as (v' := I ((2 ^ h : Nat) : Int)) (congrArg I (by simp))) (Wan.is rfl rfl rfl rfl rfl) rfl rfl rfl ?_
  refine J.deg rfl (op_call rfl rfl ent14 (Ct.use0 (fun F' hF => xcount_ct F' gk sd (Wo.opn sd) (Xm.root sd h) h AK (2 ^ h) cK (hcK.mono (hF mk (by simp)))))) (Wan.is rfl rfl rfl rfl rfl) rfl rfl (by simp) ?_
  intro g45 _
  refine J.dyg rfl ((op_neq rfl rfl rfl).as (v' := .bool false) (congrArg Value.bool (decide_eq_false (fun h => h rfl)))) (Wan.is rfl rfl rfl rfl rfl) rfl rfl rfl ?_
  refine J.dy rfl (op_pickF rfl rfl rfl) rfl rfl rfl rfl ?_
  refine J.dnil ?_
  refine J.then_n (J.k hK8 ?_)
  refine J.keepE [(0, _), (1, _), (7, _), (8, _), (9, _), (49, _)] ⟨rfl, rfl, rfl, rfl, rfl, rfl, trivial⟩ ?_
  refine J.condF rfl rfl ?_
  refine J.skip ?_
  refine J.then_n (J.k hK7 ?_)
  refine J.keepE [(0, _), (1, _), (7, _), (8, _), (9, _)] ⟨rfl, rfl, rfl, rfl, rfl, trivial⟩ ?_
  refine J.seq (fun K9 hK9 => ?_)
  refine J.region ?_
  refine J.y (op_move rfl rfl) rfl rfl rfl ?_
  refine J.y (op_move rfl rfl) rfl rfl rfl ?_
  refine J.y (op_move rfl rfl) rfl rfl rfl ?_
  refine J.e (op_call rfl rfl ent15 (Ct.use0 (fun F' hF => xsign_low F' (hK.mono (hF _ (by simp))) gk sd h AK cK (hcK.mono (hF mk (by simp))) (hsK.mono (hF mk (by simp))) (by omega) (by omega) mg (by omega) n1 hi))) rfl rfl rfl ?_
  intro g54 _
  refine J.y (op_move rfl rfl) rfl rfl rfl ?_
  refine J.y (op_extract (v := .agg [I 0, .slice none 0 0, .slice none 0 0].toArray) rfl rfl rfl) rfl rfl rfl ?_
  refine J.y (op_extract (v := I 10) rfl rfl rfl) rfl rfl rfl ?_
  refine J.e (op_alloc rfl Tryd.zeroValue32 rfl) rfl rfl rfl ?_
  intro g11 _
  change J _ _ _ [F, blk g5 [.int .i8 n0, .int .i8 n1] 23, mk, blk g11 _ 32] _
  refine J.s (op_storeAll (l := [I 0, .slice none 0 0, .slice none 0 0]) (i := 3) (vs := [I 0, .slice none 0 0, .slice none 0 0]) rfl rfl rfl rfl rfl Tryd.sizeOf32 rfl rfl) rfl rfl (fun _ _ => ?_)
  change J _ _ _ [F, blk g5 [.int .i8 n0, .int .i8 n1] 23, mk, blk g11 [I 0, .slice none 0 0, .slice none 0 0] 32] _
  refine J.y (op_assign rfl rfl) rfl rfl rfl ?_
  refine J.nil ?_
  refine J.then_n (J.k hK9 ?_)
  refine J.keepE [(0, _), (1, _), (7, _), (8, _), (9, _), (11, _), (12, _)] ⟨rfl, rfl, rfl, rfl, rfl, rfl, rfl, trivial⟩ ?_
  refine J.seq (fun K10 hK10 => ?_)
  refine J.seq (fun K11 hK11 => ?_)
  refine J.region ?_
  refine J.y (op_move rfl rfl) rfl rfl rfl ?_
  refine J.y ((op_lss rfl rfl rfl).as (v' := .bool true) (congrArg Value.bool (decide_eq_true (by omega)))) rfl rfl rfl ?_
  refine J.y (op_move rfl rfl) rfl rfl rfl ?_
  refine J.no (Wan.is rfl rfl rfl rfl rfl) rfl rfl ?_
  refine J.no (Wan.is rfl rfl rfl rfl rfl) rfl rfl ?_
  refine J.no (Wan.is rfl rfl rfl rfl rfl) rfl rfl ?_
  refine J.no (Wan.is rfl rfl rfl rfl rfl) rfl rfl ?_
  refine J.y (op_pickT rfl rfl rfl) rfl rfl rfl ?_
  refine J.nil ?_
  refine J.then_n (J.k hK11 ?_)
  refine J.keepE [(0, _), (1, _), (7, _), (8, _), (9, _), (11, _), (12, _), (64, _)] ⟨rfl, rfl, rfl, rfl, rfl, rfl, rfl, rfl, trivial⟩ ?_
  refine J.condT rfl rfl ?_
  refine J.seq (fun K12 hK12 => ?_)
  refine J.region ?_
  refine J.y (op_fieldAddr (j := 1) rfl rfl Tryd.underlying32 rfl Tryd.sizeOf30 rfl) rfl rfl rfl ?_
  refine J.y (op_loadB 3 rfl rfl rfl Tryd.isAgg30 rfl) rfl rfl rfl ?_
  refine J.y (op_len Tryd.underlying30 rfl rfl) rfl rfl rfl ?_
  refine J.y ((op_eql rfl rfl rfl).as (v' := .bool true) (congrArg Value.bool (decide_eq_true (by decide)))) rfl rfl rfl ?_
  refine J.y (op_move rfl rfl) rfl rfl rfl ?_
  refine J.yg (Wan.is rfl rfl rfl rfl rfl) (op_move rfl rfl) rfl rfl ?_
  refine J.yg (Wan.is rfl rfl rfl rfl rfl) ((op_eql rfl rfl rfl).as (v' := .bool true) (congrArg Value.bool (decide_eq_true (by decide)))) rfl rfl ?_
  refine J.yg (Wan.is rfl rfl rfl rfl rfl) (op_move rfl rfl) rfl rfl ?_
  refine J.yg (Wan.is rfl rfl rfl rfl rfl) ((op_lss rfl rfl rfl).as (v' := .bool true) (congrArg Value.bool (decide_eq_true (by omega)))) rfl rfl ?_
  refine J.yg (Wan.is rfl rfl rfl rfl rfl) ((op_eqlB Tryd.underlying4 rfl rfl rfl).as (v' := .bool true) rfl) rfl rfl ?_
  refine J.y (op_pickT rfl rfl rfl) rfl rfl rfl ?_
  refine J.y (op_move rfl rfl) rfl rfl rfl ?_
  refine J.yg (Wan.is rfl rfl rfl rfl rfl) (op_move rfl rfl) rfl rfl ?_
  refine J.yg (Wan.is rfl rfl rfl rfl rfl) ((op_eql rfl rfl rfl).as (v' := .bool false) (congrArg Value.bool (decide_eq_false (by decide)))) rfl rfl ?_
  refine J.yg (Wan.is rfl rfl rfl rfl rfl) (op_move rfl rfl) rfl rfl ?_
  refine J.yg (Wan.is rfl rfl rfl rfl rfl) (op_move rfl rfl) rfl rfl ?_
  refine J.yg (Wan.is rfl rfl rfl rfl rfl) ((op_shlI (a := 1) (m := h) rfl rfl rfl ⟨by omega, by omega, by rw [Int.one_mul]; omega⟩).as (v' := I ((2 ^ h : Nat) : Int)) (congrArg I (by simp))) rfl rfl ?_
  refine J.yg (Wan.is rfl rfl rfl rfl rfl) ((op_geq rfl rfl rfl).as (v' := .bool false) (congrArg Value.bool (decide_eq_false (by omega)))) rfl rfl ?_
  refine J.yg (Wan.is rfl rfl rfl rfl rfl) ((op_eqlB Tryd.underlying4 rfl rfl rfl).as (v' := .bool true) rfl) rfl rfl ?_
  refine J.y (op_pickT rfl rfl rfl) rfl rfl rfl ?_
  refine J.y (op_assign rfl rfl) rfl rfl rfl ?_
  refine J.nil ?_
  refine J.then_n (J.k hK12 ?_)
  refine J.keepE [(6, _)] ⟨rfl, trivial⟩ ?_
  refine J.ret ?_
  refine J.then_r ?_
  exact J.done (fun _ _ h => h) (res1 rfl rfl) (retOk () rfl trivial [0] rfl (by decide))

theorem xmssSigns_high (F : Hp) (hK : Cells F ⟨0, 0, none⟩ (Sha.K.map W32)) (seed message : List UInt8) (n0 : Int) (b0 : -128 ≤ n0 ∧ n0 ≤ 127) (n1 : Int) (b1 : -128 ≤ n1 ∧ n1 ≤ 127) (hi : 2 ^ (n0 % 4).toNat ≤ n1) :
    Ct Tryd.prog 3 [Str seed, Str message, .agg #[.int .i8 n0, .int .i8 n1]] [F] (fun _ : Unit => .bool true) (fun _ => True) (fun _ => [F]) := by
  obtain ⟨sd, hsd⟩ : ∃ y, y = seed.take 20 := ⟨_, rfl⟩
  obtain ⟨mg, hmg⟩ : ∃ y, y = message.take 100 := ⟨_, rfl⟩
  have hsl : sd.length ≤ 20 := by rw [hsd, List.length_take]; omega
  have hml : mg.length ≤ 100 := by rw [hmg, List.length_take]; omega
  obtain ⟨h, hh⟩ : ∃ h, h = (n0 % 4).toNat := ⟨_, rfl⟩
  have hh2 : (h : Int) = n0 % 2 ^ 2 := by omega
  have h3 : h ≤ 3 := by omega
  try rw [← hh] at hi
  have hp64 := Xm.pow_le h (by omega)
  have hcast : ((2 ^ h : Nat) : Int) = 2 ^ h := by simp
  have hpz : (0 : Int) < 2 ^ h := Int.pow_pos (by decide)
  refine Ct.walk Tryd.func3 rfl Tryd.ntmps3 rfl (fun w0 => ?_)
  change J _ [(0, _), (1, _), (2, _)] _ _ _
  refine J.seq (fun K1 hK1 => ?_)
  refine J.region ?_
  refine J.e (op_box rfl rfl (l := [.int .i8 n0, .int .i8 n1]) rfl) rfl rfl rfl ?_
  intro g5 _
  change J _ _ _ [F, blk g5 [.int .i8 n0, .int .i8 n1] 23] _
  refine J.y (op_assign rfl rfl) rfl rfl rfl ?_
  refine J.nil ?_
  refine J.then_n (J.k hK1 ?_)
  refine J.keepE [(0, _), (1, _), (5, _)] ⟨rfl, rfl, rfl, trivial⟩ ?_
  refine J.seq (fun K2 hK2 => ?_)
  refine J.seq (fun K3 hK3 => ?_)
  refine J.region ?_
  refine J.e (op_call rfl rfl ent12 (Ct.use0 (fun F' hF => speaks08_ct F' (hK.mono (hF _ (by simp)))))) rfl rfl rfl ?_
  intro g16 _
  refine J.y ((op_not rfl rfl).as (v' := .bool false) rfl) rfl rfl rfl ?_
  refine J.nil ?_
  refine J.then_n (J.k hK3 ?_)
  refine J.keepE [(0, _), (1, _), (5, _), (17, _)] ⟨rfl, rfl, rfl, rfl, trivial⟩ ?_
  refine J.condF rfl rfl ?_
  refine J.skip ?_
  refine J.then_n (J.k hK2 ?_)
  refine J.keepE [(0, _), (1, _), (5, _)] ⟨rfl, rfl, rfl, trivial⟩ ?_
  refine J.seq (fun K4 hK4 => ?_)
  refine J.draw [F, blk g5 [.int .i8 n0, .int .i8 n1] 23] [] (.y 0 (.y 1 (.y 2 (.y 3 (.y 4 (.y 5 (.y 6 (.y 7 (.y 8 (.y 9 (.y 10 (.y 11 .nil)))))))))))) Tryd.wide (by decide +kernel) (by simp) ?_
  refine J.dy rfl (op_move rfl rfl) rfl rfl rfl rfl ?_
  refine J.dy rfl (op_move rfl rfl) rfl rfl rfl rfl ?_
  refine J.dy rfl (op_slen Tryd.underlying9 rfl rfl) rfl rfl rfl rfl ?_
  refine J.dy rfl ((op_min rfl rfl rfl).as (v' := I ((min seed.length 20 : Nat) : Int)) (congrArg I (by omega))) rfl rfl rfl rfl ?_
  refine J.dy rfl ((op_sslice (l := 0) (h := min seed.length 20) Tryd.underlying9 rfl rfl rfl rfl ⟨by omega, by omega⟩).as (congrArg Str ((Sha.take_min _ _).trans hsd.symm))) rfl rfl rfl rfl ?_
  refine J.dy rfl (op_move rfl rfl) rfl rfl rfl rfl ?_
  refine J.dy rfl (op_move rfl rfl) rfl rfl rfl rfl ?_
  refine J.dy rfl (op_slen Tryd.underlying9 rfl rfl) rfl rfl rfl rfl ?_
  refine J.dy rfl ((op_min rfl rfl rfl).as (v' := I ((min message.length 100 : Nat) : Int)) (congrArg I (by omega))) rfl rfl rfl rfl ?_
  refine J.dy rfl ((op_sslice (l := 0) (h := min message.length 100) Tryd.underlying9 rfl rfl rfl rfl ⟨by omega, by omega⟩).as (congrArg Str ((Sha.take_min _ _).trans hmg.symm))) rfl rfl rfl rfl ?_
  refine J.dy rfl (op_assign rfl rfl) rfl rfl rfl rfl ?_
  refine J.dy rfl (op_assign rfl rfl) rfl rfl rfl rfl ?_
  refine J.dnil ?_
  refine J.then_n (J.k hK4 ?_)
  refine J.keepE [(0, _), (1, _), (5, _)] ⟨rfl, rfl, rfl, trivial⟩ ?_
  refine J.seq (fun K5 hK5 => ?_)
  refine J.draw [F, blk g5 [.int .i8 n0, .int .i8 n1] 23] [] (.y 0 (.y 1 (.y 2 (.y 3 (.y 4 (.y 5 (.y 6 (.y 7 (.y 8 .nil))))))))) Tryd.wide (by decide +kernel) (by simp) ?_
  refine J.dy rfl (op_indexAddrJ (i := 0) (j := 0) rfl rfl rfl Tryd.underlying23 Tryd.sizeOf22 (by decide) (by decide)) rfl rfl rfl rfl ?_
  refine J.dy rfl (op_loadB 1 rfl rfl rfl Tryd.isAgg22 rfl) rfl rfl rfl rfl ?_
  refine J.dy rfl (op_cv_i8_i64 rfl rfl Tryd.underlying22 Tryd.underlying3 b0) rfl rfl rfl rfl ?_
  refine J.dy rfl ((op_maskI 2 rfl rfl rfl (by decide) (by decide)).as (v' := I h) (congrArg I hh2.symm)) rfl rfl rfl rfl ?_
  refine J.dy rfl (op_indexAddrJ (i := 1) (j := 1) rfl rfl rfl Tryd.underlying23 Tryd.sizeOf22 (by decide) (by decide)) rfl rfl rfl rfl ?_
  refine J.dy rfl (op_loadB 1 rfl rfl rfl Tryd.isAgg22 rfl) rfl rfl rfl rfl ?_
  refine J.dy rfl (op_cv_i8_i64 rfl rfl Tryd.underlying22 Tryd.underlying3 (by omega)) rfl rfl rfl rfl ?_
  refine J.dy rfl (op_assign rfl rfl) rfl rfl rfl rfl ?_
  refine J.dy rfl (op_assign rfl rfl) rfl rfl rfl rfl ?_
  refine J.dnil ?_
  refine J.then_n (J.k hK5 ?_)
  refine J.keepE [(0, _), (1, _), (7, _), (8, _)] ⟨rfl, rfl, rfl, rfl, trivial⟩ ?_
  refine J.seq (fun K6 hK6 => ?_)
  refine J.region ?_
  refine J.y (op_move rfl rfl) rfl rfl rfl ?_
  refine J.y (op_move rfl rfl) rfl rfl rfl ?_
  refine J.e (op_call rfl rfl ent13 (Ct.use (fun F' hF => (xnew_ct F' (hK.mono (hF _ (by simp))) sd h (by omega) (by omega)).mono (φ2 := fun x : Nat × Hp => Keyed x.2 x.1 sd h) (val2 := fun x : Nat × Hp => .tuple #[Ptr x.1, I 0]) (ms2 := fun x : Nat × Hp => F' :: [x.2]) id (fun _ _ => rfl) (fun _ h => h) (fun x w0 w _ h => h.pick [1, 0] (by decide))))) rfl rfl rfl ?_
  rintro ⟨gk, mk⟩ hk6
  try dsimp only at hk6
  change J _ ((38, .tuple #[Ptr gk, I 0]) :: _) _ [F, blk g5 [.int .i8 n0, .int .i8 n1] 23, mk] _
  obtain ⟨AK, cK, hcK, hsK⟩ := hk6.see
  refine J.y (op_move rfl rfl) rfl rfl rfl ?_
  refine J.y (op_extract (v := Ptr gk) rfl rfl rfl) rfl rfl rfl ?_
  refine J.y (op_extract (v := I 0) rfl rfl rfl) rfl rfl rfl ?_
  refine J.y (op_assign rfl rfl) rfl rfl rfl ?_
  refine J.y (op_assign rfl rfl) rfl rfl rfl ?_
  refine J.nil ?_
  refine J.then_n (J.k hK6 ?_)
  refine J.keepE [(0, _), (1, _), (7, _), (8, _), (9, _), (10, _)] ⟨rfl, rfl, rfl, rfl, rfl, rfl, trivial⟩ ?_
  refine J.seq (fun K7 hK7 => ?_)
  refine J.seq (fun K8 hK8 => ?_)
  refine J.draw [F, blk g5 [.int .i8 n0, .int .i8 n1] 23, mk] [] (.y 0 (.y 1 (.y 2 (.y 3 (.y 5 (.y 6 (.e 4 (.y 7 (.y 8 .nil))))))))) Tryd.wide (by decide +kernel) (by simp) ?_
  refine J.dy rfl (op_move rfl rfl) rfl rfl rfl rfl ?_
  refine J.dy rfl ((op_neq rfl rfl rfl).as (v' := .bool false) (congrArg Value.bool (decide_eq_false (by decide)))) rfl rfl rfl rfl ?_
  refine J.dy rfl (op_move rfl rfl) rfl rfl rfl rfl ?_
  refine J.dyg rfl (op_move rfl rfl) (Wan.is rfl rfl rfl rfl rfl) rfl rfl rfl ?_
  refine J.dyg rfl (op_move rfl rfl) (Wan.is rfl rfl rfl rfl rfl) rfl rfl rfl ?_
  refine J.dyg rfl ((op_shlI (a := 1) (m := h) rfl rfl rfl ⟨by omega, by omega, by rw [Int.one_mul]; omega⟩).as (v' := I ((2 ^ h : Nat) : Int)) (congrArg I (by simp))) (Wan.is rfl rfl rfl rfl rfl) rfl rfl rfl ?_
  refine J.deg rfl (op_call rfl rfl ent14 (Ct.use0 (fun F' hF => xcount_ct F' gk sd (Wo.opn sd) (Xm.root sd h) h AK (2 ^ h) cK (hcK.mono (hF mk (by simp)))))) (Wan.is rfl rfl rfl rfl rfl) rfl rfl (by simp) ?_
  intro g45 _
  refine J.dyg rfl ((op_neq rfl rfl rfl).as (v' := .bool false) (congrArg Value.bool (decide_eq_false (fun h => h rfl)))) (Wan.is rfl rfl rfl rfl rfl) rfl rfl rfl ?_
  refine J.dy rfl (op_pickF rfl rfl rfl) rfl rfl rfl rfl ?_
  refine J.dnil ?_
  refine J.then_n (J.k hK8 ?_)
  refine J.keepE [(0, _), (1, _), (7, _), (8, _), (9, _), (49, _)] ⟨rfl, rfl, rfl, rfl, rfl, rfl, trivial⟩ ?_
  refine J.condF rfl rfl ?_
  refine J.skip ?_
  refine J.then_n (J.k hK7 ?_)
  refine J.keepE [(0, _), (1, _), (7, _), (8, _), (9, _)] ⟨rfl, rfl, rfl, rfl, rfl, trivial⟩ ?_
  refine J.seq (fun K9 hK9 => ?_)
  refine J.region ?_
  refine J.y (op_move rfl rfl) rfl rfl rfl ?_
  refine J.y (op_move rfl rfl) rfl rfl rfl ?_
  refine J.y (op_move rfl rfl) rfl rfl rfl ?_
  refine J.e (op_call rfl rfl ent15 (Ct.use0 (fun F' hF => xsign_high F' (hK.mono (hF _ (by simp))) gk sd h AK cK (hcK.mono (hF mk (by simp))) (hsK.mono (hF mk (by simp))) (by omega) (by omega) mg (by omega) n1 hi))) rfl rfl rfl ?_
  intro g54 _
  refine J.y (op_move rfl rfl) rfl rfl rfl ?_
  refine J.y (op_extract (v := .agg [I 0, .slice none 0 0, .slice none 0 0].toArray) rfl rfl rfl) rfl rfl rfl ?_
  refine J.y (op_extract (v := I 11) rfl rfl rfl) rfl rfl rfl ?_
  refine J.e (op_alloc rfl Tryd.zeroValue32 rfl) rfl rfl rfl ?_
  intro g11 _
  change J _ _ _ [F, blk g5 [.int .i8 n0, .int .i8 n1] 23, mk, blk g11 _ 32] _
  refine J.s (op_storeAll (l := [I 0, .slice none 0 0, .slice none 0 0]) (i := 3) (vs := [I 0, .slice none 0 0, .slice none 0 0]) rfl rfl rfl rfl rfl Tryd.sizeOf32 rfl rfl) rfl rfl (fun _ _ => ?_)
  change J _ _ _ [F, blk g5 [.int .i8 n0, .int .i8 n1] 23, mk, blk g11 [I 0, .slice none 0 0, .slice none 0 0] 32] _
  refine J.y (op_assign rfl rfl) rfl rfl rfl ?_
  refine J.nil ?_
  refine J.then_n (J.k hK9 ?_)
  refine J.keepE [(0, _), (1, _), (7, _), (8, _), (9, _), (11, _), (12, _)] ⟨rfl, rfl, rfl, rfl, rfl, rfl, rfl, trivial⟩ ?_
  refine J.seq (fun K10 hK10 => ?_)
  refine J.seq (fun K11 hK11 => ?_)
  refine J.region ?_
  refine J.y (op_move rfl rfl) rfl rfl rfl ?_
  refine J.y ((op_lss rfl rfl rfl).as (v' := .bool false) (congrArg Value.bool (decide_eq_false (by omega)))) rfl rfl rfl ?_
  refine J.y (op_move rfl rfl) rfl rfl rfl ?_
  refine J.yg (Wan.is rfl rfl rfl rfl rfl) (op_move rfl rfl) rfl rfl ?_
  refine J.yg (Wan.is rfl rfl rfl rfl rfl) (op_move rfl rfl) rfl rfl ?_
  refine J.yg (Wan.is rfl rfl rfl rfl rfl) ((op_shlI (a := 1) (m := h) rfl rfl rfl ⟨by omega, by omega, by rw [Int.one_mul]; omega⟩).as (v' := I ((2 ^ h : Nat) : Int)) (congrArg I (by simp))) rfl rfl ?_
  refine J.yg (Wan.is rfl rfl rfl rfl rfl) ((op_geq rfl rfl rfl).as (v' := .bool true) (congrArg Value.bool (decide_eq_true (by omega)))) rfl rfl ?_
  refine J.y (op_pickF rfl rfl rfl) rfl rfl rfl ?_
  refine J.nil ?_
  refine J.then_n (J.k hK11 ?_)
  refine J.keepE [(0, _), (1, _), (7, _), (8, _), (9, _), (11, _), (12, _), (64, _)] ⟨rfl, rfl, rfl, rfl, rfl, rfl, rfl, rfl, trivial⟩ ?_
  refine J.condT rfl rfl ?_
  refine J.seq (fun K12 hK12 => ?_)
  refine J.region ?_
  refine J.y (op_fieldAddr (j := 1) rfl rfl Tryd.underlying32 rfl Tryd.sizeOf30 rfl) rfl rfl rfl ?_
  refine J.y (op_loadB 3 rfl rfl rfl Tryd.isAgg30 rfl) rfl rfl rfl ?_
  refine J.y (op_len Tryd.underlying30 rfl rfl) rfl rfl rfl ?_
  refine J.y ((op_eql rfl rfl rfl).as (v' := .bool true) (congrArg Value.bool (decide_eq_true (by decide)))) rfl rfl rfl ?_
  refine J.y (op_move rfl rfl) rfl rfl rfl ?_
  refine J.yg (Wan.is rfl rfl rfl rfl rfl) (op_move rfl rfl) rfl rfl ?_
  refine J.yg (Wan.is rfl rfl rfl rfl rfl) ((op_eql rfl rfl rfl).as (v' := .bool false) (congrArg Value.bool (decide_eq_false (by decide)))) rfl rfl ?_
  refine J.yg (Wan.is rfl rfl rfl rfl rfl) (op_move rfl rfl) rfl rfl ?_
  refine J.yg (Wan.is rfl rfl rfl rfl rfl) ((op_lss rfl rfl rfl).as (v' := .bool false) (congrArg Value.bool (decide_eq_false (by omega)))) rfl rfl ?_
  refine J.yg (Wan.is rfl rfl rfl rfl rfl) ((op_eqlB Tryd.underlying4 rfl rfl rfl).as (v' := .bool true) rfl) rfl rfl ?_
  refine J.y (op_pickT rfl rfl rfl) rfl rfl rfl ?_
  refine J.y (op_move rfl rfl) rfl rfl rfl ?_
  refine J.yg (Wan.is rfl rfl rfl rfl rfl) (op_move rfl rfl) rfl rfl ?_
  refine J.yg (Wan.is rfl rfl rfl rfl rfl) ((op_eql rfl rfl rfl).as (v' := .bool true) (congrArg Value.bool (decide_eq_true (by decide)))) rfl rfl ?_
  refine J.yg (Wan.is rfl rfl rfl rfl rfl) (op_move rfl rfl) rfl rfl ?_
  refine J.yg (Wan.is rfl rfl rfl rfl rfl) (op_move rfl rfl) rfl rfl ?_
  refine J.yg (Wan.is rfl rfl rfl rfl rfl) ((op_shlI (a := 1) (m := h) rfl rfl rfl ⟨by omega, by omega, by rw [Int.one_mul]; omega⟩).as (v' := I ((2 ^ h : Nat) : Int)) (congrArg I (by simp))) rfl rfl ?_
  refine J.yg (Wan.is rfl rfl rfl rfl rfl) ((op_geq rfl rfl rfl).as (v' := .bool true) (congrArg Value.bool (decide_eq_true (by omega)))) rfl rfl ?_
  refine J.yg (Wan.is rfl rfl rfl rfl rfl) ((op_eqlB Tryd.underlying4 rfl rfl rfl).as (v' := .bool true) rfl) rfl rfl ?_
  refine J.y (op_pickT rfl rfl rfl) rfl rfl rfl ?_
  refine J.y (op_assign rfl rfl) rfl rfl rfl ?_
  refine J.nil ?_
  refine J.then_n (J.k hK12 ?_)
  refine J.keepE [(6, _)] ⟨rfl, trivial⟩ ?_
  refine J.ret ?_
  refine J.then_r ?_
  exact J.done (fun _ _ h => h) (res1 rfl rfl) (retOk () rfl trivial [0] rfl (by decide))

theorem xmssSigns_ct (F : Hp) (hK : Cells F ⟨0, 0, none⟩ (Sha.K.map W32)) (seed message : List UInt8) (n0 n1 : Int) (b0 : -128 ≤ n0 ∧ n0 ≤ 127) (b1 : -128 ≤ n1 ∧ n1 ≤ 127) :
    Ct Tryd.prog 3 [Str seed, Str message, .agg #[.int .i8 n0, .int .i8 n1]] [F] (fun _ : Unit => .bool true) (fun _ => True) (fun _ => [F]) := by
  by_cases h1 : n1 < 0
  · exact xmssSigns_low F hK seed message n0 b0 n1 b1 h1
  · by_cases h2 : n1 < 2 ^ (n0 % 4).toNat
    · obtain ⟨i, rfl⟩ := Int.eq_ofNat_of_zero_le (show 0 ≤ n1 by omega)
      exact xmssSigns_in F hK seed message n0 b0 i h2 b1.2
    · exact xmssSigns_high F hK seed message n0 b0 n1 b1 (by omega)

end Go.Proofs.YtlopnfgacopkbaaDoor
