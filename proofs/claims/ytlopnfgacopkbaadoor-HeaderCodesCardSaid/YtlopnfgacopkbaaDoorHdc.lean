/- A part of the proof: contracts of functions of the program, each for every state of the heaps that it names. -/
import Derived.Test.YtlopnfgacopkbaaDoorHdl
import Derived.Test.YtlopnfgacopkbaaDoorFwR
set_option linter.unusedSimpArgs false
set_option linter.unusedVariables false
namespace Go.Proofs.YtlopnfgacopkbaaDoor
open Go Go.Fw
set_option maxRecDepth 100000
set_option maxHeartbeats 1000000
theorem ent27 : Enters Tryd.prog 27 := Enters.of Tryd.func27 rfl (by kernel_rfl)
theorem ent28 : Enters Tryd.prog 28 := Enters.of Tryd.func28 rfl (by kernel_rfl)
theorem ent29 : Enters Tryd.prog 29 := Enters.of Tryd.func29 rfl (by kernel_rfl)
theorem ent30 : Enters Tryd.prog 30 := Enters.of Tryd.func30 rfl (by kernel_rfl)
theorem ent46 : Enters Tryd.prog 46 := Enters.of Tryd.func46 rfl (by kernel_rfl)
theorem ent48 : Enters Tryd.prog 48 := Enters.of Tryd.func48 rfl (by kernel_rfl)

theorem headerCodes_ct (F : Hp) (hK : Cells F ⟨0, 0, none⟩ (Sha.K.map W32)) (ep : Nat) (hep : ep < 18446744073709551616) (p : List UInt8) (d a : Int) (ns : List UInt8) :
    Ct Tryd.prog 10 [.agg #[N64 ep, Str p, I d, I a, Str ns]] [F] (fun _ : Unit => .bool true) (fun _ => True) (fun _ => [F]) := by
  obtain ⟨x, hx⟩ : ∃ x, x = told ep p d a ns := ⟨_, rfl⟩
  have hg : x.good := hx ▸ told_good p d a ns hep
  have hsm : ∀ s ∈ x.nodes, s.length ≤ 1048576 := fun s hs => Nat.le_trans (told_small ep p d a ns s (hx ▸ hs)) (by decide)
  refine Ct.walk Tryd.func10 rfl Tryd.ntmps10 rfl (fun w0 hw0 => ?_)
  change J _ [(0, _)] _ _ _
  refine J.seq (fun K1 hK1 => ?_)
  refine J.region ?_
  refine J.e (op_box rfl rfl (l := [N64 ep, Str p, I d, I a, Str ns]) rfl) rfl rfl rfl ?_
  intro g1 _
  change J _ _ _ [F, blk g1 [N64 ep, Str p, I d, I a, Str ns] 55] _
  refine J.y (op_assign rfl rfl) rfl rfl rfl ?_
  refine J.nil ?_
  refine J.then_n (J.k hK1 ?_)
  refine J.keepE [(1, _)] ⟨rfl, trivial⟩ ?_
  refine J.seq (fun K2 hK2 => ?_)
  refine J.seq (fun K3 hK3 => ?_)
  refine J.region ?_
  refine J.e (op_call rfl rfl ent27 (Ct.use0 (fun F' hF => speaks19_ct F' (hK.mono (hF F (by simp)))))) rfl rfl rfl ?_
  intro g12 _
  refine J.y ((op_not rfl rfl).as (v' := .bool false) rfl) rfl rfl rfl ?_
  refine J.nil ?_
  refine J.then_n (J.k hK3 ?_)
  refine J.keepE [(1, _), (13, _)] ⟨rfl, rfl, trivial⟩ ?_
  refine J.condF rfl rfl ?_
  refine J.skip ?_
  refine J.then_n (J.k hK2 ?_)
  refine J.keepE [(1, _)] ⟨rfl, trivial⟩ ?_
  refine J.seq (fun K4 hK4 => ?_)
  refine J.region ?_
  refine J.y (op_loadBA 1 rfl rfl rfl Tryd.isAgg55 Tryd.sizeOf55 rfl) rfl rfl rfl ?_
  refine J.e (op_call rfl rfl ent28 (Ct.use (new := fun y : Option Addr × Nat × Hp => [y.2.2]) (fun F' _ => told_ct2 F' ep hep p d a ns x hx))) rfl rfl rfl ?_
  rintro ⟨A, c, m⟩ hsl
  try dsimp only at hsl
  change J _ _ _ [F, blk g1 [N64 ep, Str p, I d, I a, Str ns] 55, m] _
  refine J.e (op_alloc rfl Tryd.zeroValue57 rfl) rfl rfl rfl ?_
  intro g3 _
  change J _ _ _ [F, blk g1 [N64 ep, Str p, I d, I a, Str ns] 55, m, blk g3 _ 57] _
  refine J.s (op_storeAll (l := [N64 0, Str [], I 0, I 0, .slice none 0 0]) (i := 3) (vs := [N64 x.ep, Str x.par, I x.dep, I x.aud, .slice A x.nodes.length c]) rfl rfl rfl rfl rfl Tryd.sizeOf57 rfl rfl) rfl rfl (fun _ _ => ?_)
  change J _ _ _ [F, blk g1 [N64 ep, Str p, I d, I a, Str ns] 55, m, blk g3 [N64 x.ep, Str x.par, I x.dep, I x.aud, .slice A x.nodes.length c] 57] _
  refine J.nil ?_
  refine J.then_n (J.k hK4 ?_)
  refine J.keepE [(3, _)] ⟨rfl, trivial⟩ ?_
  refine J.seq (fun K5 hK5 => ?_)
  refine J.region ?_
  refine J.y (op_loadBA 3 rfl rfl rfl Tryd.isAgg57 Tryd.sizeOf57 rfl) rfl rfl rfl ?_
  refine J.e (op_call rfl rfl ent45 (Ct.use0 (fun F' hF => hencode_ct F' x A c hg (hsl.mono (hF m (by simp)))))) rfl rfl rfl ?_
  intro g18 _
  refine J.y (op_move rfl rfl) rfl rfl rfl ?_
  refine J.y (op_extract (v := Str x.enc) rfl rfl rfl) rfl rfl rfl ?_
  refine J.y (op_extract (v := I x.err) rfl rfl rfl) rfl rfl rfl ?_
  refine J.y (op_assign rfl rfl) rfl rfl rfl ?_
  refine J.y (op_assign rfl rfl) rfl rfl rfl ?_
  refine J.nil ?_
  refine J.then_n (J.k hK5 ?_)
  refine J.keepE [(3, _), (4, _), (5, _)] ⟨rfl, rfl, rfl, trivial⟩ ?_
  refine J.seq (fun K6 hK6 => ?_)
  refine J.region ?_
  refine J.y (op_loadBA 3 rfl rfl rfl Tryd.isAgg57 Tryd.sizeOf57 rfl) rfl rfl rfl ?_
  refine J.e (op_call rfl rfl ent30 (Ct.use0 (fun F' hF => plain_ct F' x A c))) rfl rfl rfl ?_
  intro g23 _
  refine J.e (op_call rfl rfl ent31 (Ct.use0 (fun F' hF => encode19_ct F' x A c hg (hsl.mono (hF m (by simp)))))) rfl rfl rfl ?_
  intro g24 _
  refine J.y (op_move rfl rfl) rfl rfl rfl ?_
  refine J.y (op_extract (v := Str x.enc) rfl rfl rfl) rfl rfl rfl ?_
  refine J.y (op_extract (v := I x.err) rfl rfl rfl) rfl rfl rfl ?_
  refine J.y (op_assign rfl rfl) rfl rfl rfl ?_
  refine J.y (op_assign rfl rfl) rfl rfl rfl ?_
  refine J.nil ?_
  refine J.then_n (J.k hK6 ?_)
  refine J.keepE [(3, _), (4, _), (5, _), (6, _), (7, _)] ⟨rfl, rfl, rfl, rfl, rfl, trivial⟩ ?_
  refine J.seq (fun K7 hK7 => ?_)
  refine J.seq (fun K8 hK8 => ?_)
  refine J.draw [blk g3 [N64 x.ep, Str x.par, I x.dep, I x.aud, .slice A x.nodes.length c] 57] [] (.y 0 (.y 1 (.y 2 (.y 3 (.y 4 (.y 5 (.y 6 (.y 7 (.y 8 (.y 9 (.y 11 (.e 10 (.e 12 (.e 13 (.y 14 (.y 15 (.y 16 (.y 17 (.y 18 (.y 20 (.y 21 (.e 19 (.y 22 (.y 23 .nil)))))))))))))))))))))))) Tryd.wide (by decide +kernel) (by simp) ?_
  refine J.dy rfl (op_move rfl rfl) rfl rfl rfl rfl ?_
  refine J.dy rfl (op_move rfl rfl) rfl rfl rfl rfl ?_
  refine J.dy rfl ((op_sne rfl rfl rfl).as (v' := .bool false) (congrArg Value.bool (decide_eq_false (fun h => h rfl)))) rfl rfl rfl rfl ?_
  refine J.dy rfl (op_move rfl rfl) rfl rfl rfl rfl ?_
  refine J.dyg rfl (op_move rfl rfl) (Wan.is rfl rfl rfl rfl rfl) rfl rfl rfl ?_
  refine J.dyg rfl (op_move rfl rfl) (Wan.is rfl rfl rfl rfl rfl) rfl rfl rfl ?_
  refine J.dyg rfl ((op_neq rfl rfl rfl).as (v' := .bool false) (congrArg Value.bool (decide_eq_false (fun h => h rfl)))) (Wan.is rfl rfl rfl rfl rfl) rfl rfl rfl ?_
  refine J.dy rfl (op_pickF rfl rfl rfl) rfl rfl rfl rfl ?_
  refine J.dy rfl (op_move rfl rfl) rfl rfl rfl rfl ?_
  refine J.dyg rfl (op_loadBA 0 rfl rfl rfl Tryd.isAgg57 Tryd.sizeOf57 rfl) (Wan.is rfl rfl rfl rfl rfl) rfl rfl rfl ?_
  refine J.dyg rfl (op_loadBA 0 rfl rfl rfl Tryd.isAgg57 Tryd.sizeOf57 rfl) (Wan.is rfl rfl rfl rfl rfl) rfl rfl rfl ?_
  refine J.deg rfl (op_call rfl rfl ent47 (Ct.use0 (fun F' hF => hdigest_ct F' (hK.mono (hF F (by simp))) x A c hg (hsl.mono (hF m (by simp)))))) (Wan.is rfl rfl rfl rfl rfl) rfl rfl (by simp) ?_
  intro g37 _
  refine J.deg rfl (op_call rfl rfl ent30 (Ct.use0 (fun F' hF => plain_ct F' x A c))) (Wan.is rfl rfl rfl rfl rfl) rfl rfl (by simp) ?_
  intro g39 _
  refine J.deg rfl (op_call rfl rfl ent29 (Ct.use0 (fun F' hF => digest19_ct F' x A c hg (hsl.mono (hF m (by simp)))))) (Wan.is rfl rfl rfl rfl rfl) rfl rfl (by simp) ?_
  intro g40 _
  refine J.dyg rfl ((op_sne rfl rfl rfl).as (v' := .bool false) (congrArg Value.bool (decide_eq_false (fun h => h rfl)))) (Wan.is rfl rfl rfl rfl rfl) rfl rfl rfl ?_
  refine J.dy rfl (op_pickF rfl rfl rfl) rfl rfl rfl rfl ?_
  refine J.dy rfl (op_move rfl rfl) rfl rfl rfl rfl ?_
  refine J.dyg rfl (op_loadBA 0 rfl rfl rfl Tryd.isAgg57 Tryd.sizeOf57 rfl) (Wan.is rfl rfl rfl rfl rfl) rfl rfl rfl ?_
  refine J.dyg rfl (op_loadBA 0 rfl rfl rfl Tryd.isAgg57 Tryd.sizeOf57 rfl) (Wan.is rfl rfl rfl rfl rfl) rfl rfl rfl ?_
  refine J.dyg rfl (op_move rfl rfl) (Wan.is rfl rfl rfl rfl rfl) rfl rfl rfl ?_
  refine J.dyg rfl (op_eql rfl rfl rfl) (Wan.is rfl rfl rfl rfl rfl) rfl rfl rfl ?_
  refine J.deg rfl (op_call rfl rfl ent48 (Ct.use0 (fun F' hF => hsame_ct F' x A c hg (hsl.mono (hF m (by simp))) x A c hg (hsl.mono (hF m (by simp)))))) (Wan.is rfl rfl rfl rfl rfl) rfl rfl (by simp) ?_
  intro g46 _
  refine J.dyg rfl ((op_neqB Tryd.underlying4 rfl rfl rfl).as (v' := .bool false) (congrArg Value.bool (by rw [show decide (x.same x) = decide (x.err = 0) from decide_eq_decide.2 (same_self x)]; simp))) (Wan.is rfl rfl rfl rfl rfl) rfl rfl rfl ?_
  refine J.dy rfl (op_pickF rfl rfl rfl) rfl rfl rfl rfl ?_
  refine J.dnil ?_
  refine J.then_n (J.k hK8 ?_)
  refine J.keepE [(3, _), (4, _), (7, _), (50, _)] ⟨rfl, rfl, rfl, rfl, trivial⟩ ?_
  refine J.condF rfl rfl ?_
  refine J.skip ?_
  refine J.then_n (J.k hK7 ?_)
  refine J.keepE [(3, _), (4, _), (7, _)] ⟨rfl, rfl, rfl, trivial⟩ ?_
  refine J.seq (fun K9 hK9 => ?_)
  refine J.region ?_
  refine J.y (op_fieldAddr (j := 4) rfl rfl Tryd.underlying57 rfl Tryd.sizeOf30 rfl) rfl rfl rfl ?_
  refine J.y (op_loadB 3 rfl rfl rfl Tryd.isAgg30 rfl) rfl rfl rfl ?_
  refine J.y (op_fieldAddr (j := 2) rfl rfl Tryd.underlying57 rfl Tryd.sizeOf3 rfl) rfl rfl rfl ?_
  refine J.y (op_loadB 3 rfl rfl rfl Tryd.isAgg3 rfl) rfl rfl rfl ?_
  refine J.e (op_call rfl rfl ent49 (Ct.use0 (fun F' hF => broot_ct F' (hK.mono (hF F (by simp))) x.dep x.nodes A c (hsl.mono (hF m (by simp))) hsm))) rfl rfl rfl ?_
  intro g56 _
  refine J.y (op_move rfl rfl) rfl rfl rfl ?_
  refine J.y (op_extract (v := Str (brVal x.nodes x.dep)) rfl rfl rfl) rfl rfl rfl ?_
  refine J.y (op_extract (v := I (brErr x.nodes x.dep)) rfl rfl rfl) rfl rfl rfl ?_
  refine J.y (op_assign rfl rfl) rfl rfl rfl ?_
  refine J.y (op_assign rfl rfl) rfl rfl rfl ?_
  refine J.nil ?_
  refine J.then_n (J.k hK9 ?_)
  refine J.keepE [(3, _), (4, _), (7, _), (8, _), (9, _)] ⟨rfl, rfl, rfl, rfl, rfl, trivial⟩ ?_
  refine J.seq (fun K10 hK10 => ?_)
  refine J.seq (fun K11 hK11 => ?_)
  refine J.region ?_
  refine J.y (op_move rfl rfl) rfl rfl rfl ?_
  refine J.y (op_eql rfl rfl rfl) rfl rfl rfl ?_
  refine J.y (op_move rfl rfl) rfl rfl rfl ?_
  refine J.split (d := 61) rfl (fun h61 => ?_) (fun h61 => ?_)
  ·
    refine J.yg (Wan.is rfl rfl rfl rfl rfl) (op_loadBA 3 rfl rfl rfl Tryd.isAgg57 Tryd.sizeOf57 rfl) rfl rfl ?_
    refine J.eg (Wan.is rfl rfl rfl rfl rfl) (op_call rfl rfl ent50 (Ct.use0 (fun F' hF => hroot_ct F' (hK.mono (hF F (by simp))) x A c hg (hsl.mono (hF m (by simp))) hsm))) rfl rfl ?_
    intro g63 _
    refine J.yg (Wan.is rfl rfl rfl rfl rfl) (op_move rfl rfl) rfl rfl ?_
    refine J.yg (Wan.is rfl rfl rfl rfl rfl) ((op_sne rfl rfl rfl).as (v' := .bool false) (congrArg Value.bool (decide_eq_false (fun h => h rfl)))) rfl rfl ?_
    refine J.y (op_pickT rfl rfl rfl) rfl rfl rfl ?_
    refine J.y (op_move rfl rfl) rfl rfl rfl ?_
    refine J.yg (Wan.is rfl rfl rfl rfl rfl) (op_move rfl rfl) rfl rfl ?_
    refine J.yg (Wan.is rfl rfl rfl rfl rfl) (op_neq rfl rfl rfl) rfl rfl ?_
    refine J.yg (Wan.is rfl rfl rfl rfl rfl) (op_move rfl rfl) rfl rfl ?_
    refine J.split (d := 70) rfl (fun h70 => ?_) (fun h70 => ?_)
    ·
      refine J.yg (Wan.is rfl rfl rfl rfl rfl) (op_loadBA 3 rfl rfl rfl Tryd.isAgg57 Tryd.sizeOf57 rfl) rfl rfl ?_
      refine J.eg (Wan.is rfl rfl rfl rfl rfl) (op_call rfl rfl ent50 (Ct.use0 (fun F' hF => hroot_ct F' (hK.mono (hF F (by simp))) x A c hg (hsl.mono (hF m (by simp))) hsm))) rfl rfl ?_
      intro g72 _
      refine J.yg (Wan.is rfl rfl rfl rfl rfl) ((op_sne rfl rfl rfl).as (v' := .bool false) (congrArg Value.bool (decide_eq_false (fun h => h (brVal_nil (by omega)))))) rfl rfl ?_
      refine J.yg (Wan.is rfl rfl rfl rfl rfl) (op_pickT rfl rfl rfl) rfl rfl ?_
      refine J.y (op_pickF rfl rfl rfl) rfl rfl rfl ?_
      refine J.nil ?_
      refine J.then_n (J.k hK11 ?_)
      refine J.keepE [(3, _), (4, _), (7, _), (75, _)] ⟨rfl, rfl, rfl, rfl, trivial⟩ ?_
      refine J.condF rfl rfl ?_
      refine J.skip ?_
      refine J.then_n (J.k hK10 ?_)
      refine J.keepE [(3, _), (4, _), (7, _)] ⟨rfl, rfl, rfl, trivial⟩ ?_
      refine J.seq (fun K12 hK12 => ?_)
      refine J.seq (fun K13 hK13 => ?_)
      refine J.region ?_
      refine J.y (op_move rfl rfl) rfl rfl rfl ?_
      refine J.y (op_neq rfl rfl rfl) rfl rfl rfl ?_
      refine J.nil ?_
      refine J.then_n (J.k hK13 ?_)
      refine J.keepE [(3, _), (4, _), (77, _)] ⟨rfl, rfl, rfl, trivial⟩ ?_
      refine J.ite rfl (fun h77 => ?_) (fun h77 => ?_)
      ·
        refine J.seq (fun K14 hK14 => ?_)
        refine J.region ?_
        refine J.y (op_assign rfl rfl) rfl rfl rfl ?_
        refine J.nil ?_
        refine J.then_n (J.k hK14 ?_)
        refine J.keepE [(2, _)] ⟨rfl, trivial⟩ ?_
        refine J.ret ?_
        refine J.then_r ?_
        exact J.done hw0 (fun _ _ h => h) (res1 rfl rfl) (retOk () (by first | rfl | exact congrArg Value.bool (decide_eq_true ((same_self x).2 e0))) trivial [0] rfl (by decide))
      ·
        refine J.skip ?_
        refine J.then_n (J.k hK12 ?_)
        refine J.keepE [(3, _), (4, _)] ⟨rfl, rfl, trivial⟩ ?_
        refine J.seq (fun K15 hK15 => ?_)
        have e0 : x.err = 0 := by omega
        refine J.region ?_
        refine J.y (op_move rfl rfl) rfl rfl rfl ?_
        refine J.e (op_call rfl rfl ent46 (Ct.use (new := fun y : Option Addr × Nat × Hp => [y.2.2]) (fun F' _ => hdecode_back F' x e0))) rfl rfl rfl ?_
        rintro ⟨B, e, m2⟩ hm2
        try dsimp only at hm2
        change J _ _ _ [F, blk g1 [N64 ep, Str p, I d, I a, Str ns] 55, m, blk g3 [N64 x.ep, Str x.par, I x.dep, I x.aud, .slice A x.nodes.length c] 57, m2] _
        refine J.y (op_move rfl rfl) rfl rfl rfl ?_
        refine J.y (op_extract (v := .agg #[N64 x.ep, Str x.par, I x.dep, I x.aud, .slice B x.nodes.length e]) rfl rfl rfl) rfl rfl rfl ?_
        refine J.y (op_extract (v := I 0) rfl rfl rfl) rfl rfl rfl ?_
        refine J.e (op_alloc rfl Tryd.zeroValue57 rfl) rfl rfl rfl ?_
        intro g10 _
        change J _ _ _ [F, blk g1 [N64 ep, Str p, I d, I a, Str ns] 55, m, blk g3 [N64 x.ep, Str x.par, I x.dep, I x.aud, .slice A x.nodes.length c] 57, m2, blk g10 _ 57] _
        refine J.s (op_storeAll (l := [N64 0, Str [], I 0, I 0, .slice none 0 0]) (i := 5) (vs := [N64 x.ep, Str x.par, I x.dep, I x.aud, .slice B x.nodes.length e]) rfl rfl rfl rfl rfl Tryd.sizeOf57 rfl rfl) rfl rfl (fun _ _ => ?_)
        change J _ _ _ [F, blk g1 [N64 ep, Str p, I d, I a, Str ns] 55, m, blk g3 [N64 x.ep, Str x.par, I x.dep, I x.aud, .slice A x.nodes.length c] 57, m2, blk g10 [N64 x.ep, Str x.par, I x.dep, I x.aud, .slice B x.nodes.length e] 57] _
        refine J.y (op_assign rfl rfl) rfl rfl rfl ?_
        refine J.nil ?_
        refine J.then_n (J.k hK15 ?_)
        refine J.keepE [(3, _), (10, _), (11, _)] ⟨rfl, rfl, rfl, trivial⟩ ?_
        refine J.seq (fun K16 hK16 => ?_)
        refine J.region ?_
        refine J.y (op_move rfl rfl) rfl rfl rfl ?_
        refine J.y ((op_eql rfl rfl rfl).as (v' := .bool true) (congrArg Value.bool (decide_eq_true (rfl)))) rfl rfl rfl ?_
        refine J.y (op_move rfl rfl) rfl rfl rfl ?_
        refine J.yg (Wan.is rfl rfl rfl rfl rfl) (op_loadBA 5 rfl rfl rfl Tryd.isAgg57 Tryd.sizeOf57 rfl) rfl rfl ?_
        refine J.yg (Wan.is rfl rfl rfl rfl rfl) (op_loadBA 3 rfl rfl rfl Tryd.isAgg57 Tryd.sizeOf57 rfl) rfl rfl ?_
        refine J.eg (Wan.is rfl rfl rfl rfl rfl) (op_call rfl rfl ent48 (Ct.use0 (fun F' hF => hsame_ct F' x B e hg (hm2.mono (hF m2 (by simp))) x A c hg (hsl.mono (hF m (by simp)))))) rfl rfl ?_
        intro g88 _
        refine J.y (op_pickT rfl rfl rfl) rfl rfl rfl ?_
        refine J.y (op_assign rfl rfl) rfl rfl rfl ?_
        refine J.nil ?_
        refine J.then_n (J.k hK16 ?_)
        refine J.keepE [(2, _)] ⟨rfl, trivial⟩ ?_
        refine J.ret ?_
        exact J.done hw0 (fun _ _ h => h) (res1 rfl rfl) (retOk () (by first | rfl | exact congrArg Value.bool (decide_eq_true ((same_self x).2 e0))) trivial [0] rfl (by decide))
    ·
      refine J.no (Wan.is rfl rfl rfl rfl rfl) rfl rfl ?_
      refine J.no (Wan.is rfl rfl rfl rfl rfl) rfl rfl ?_
      refine J.no (Wan.is rfl rfl rfl rfl rfl) rfl rfl ?_
      refine J.yg (Wan.is rfl rfl rfl rfl rfl) (op_pickF rfl rfl rfl) rfl rfl ?_
      refine J.y (op_pickF rfl rfl rfl) rfl rfl rfl ?_
      refine J.nil ?_
      refine J.then_n (J.k hK11 ?_)
      refine J.keepE [(3, _), (4, _), (7, _), (75, _)] ⟨rfl, rfl, rfl, rfl, trivial⟩ ?_
      refine J.condF rfl rfl ?_
      refine J.skip ?_
      refine J.then_n (J.k hK10 ?_)
      refine J.keepE [(3, _), (4, _), (7, _)] ⟨rfl, rfl, rfl, trivial⟩ ?_
      refine J.seq (fun K17 hK17 => ?_)
      refine J.seq (fun K18 hK18 => ?_)
      refine J.region ?_
      refine J.y (op_move rfl rfl) rfl rfl rfl ?_
      refine J.y (op_neq rfl rfl rfl) rfl rfl rfl ?_
      refine J.nil ?_
      refine J.then_n (J.k hK18 ?_)
      refine J.keepE [(3, _), (4, _), (77, _)] ⟨rfl, rfl, rfl, trivial⟩ ?_
      refine J.ite rfl (fun h77 => ?_) (fun h77 => ?_)
      ·
        refine J.seq (fun K19 hK19 => ?_)
        refine J.region ?_
        refine J.y (op_assign rfl rfl) rfl rfl rfl ?_
        refine J.nil ?_
        refine J.then_n (J.k hK19 ?_)
        refine J.keepE [(2, _)] ⟨rfl, trivial⟩ ?_
        refine J.ret ?_
        refine J.then_r ?_
        exact J.done hw0 (fun _ _ h => h) (res1 rfl rfl) (retOk () (by first | rfl | exact congrArg Value.bool (decide_eq_true ((same_self x).2 e0))) trivial [0] rfl (by decide))
      ·
        refine J.skip ?_
        refine J.then_n (J.k hK17 ?_)
        refine J.keepE [(3, _), (4, _)] ⟨rfl, rfl, trivial⟩ ?_
        refine J.seq (fun K20 hK20 => ?_)
        have e0 : x.err = 0 := by omega
        refine J.region ?_
        refine J.y (op_move rfl rfl) rfl rfl rfl ?_
        refine J.e (op_call rfl rfl ent46 (Ct.use (new := fun y : Option Addr × Nat × Hp => [y.2.2]) (fun F' _ => hdecode_back F' x e0))) rfl rfl rfl ?_
        rintro ⟨B, e, m2⟩ hm2
        try dsimp only at hm2
        change J _ _ _ [F, blk g1 [N64 ep, Str p, I d, I a, Str ns] 55, m, blk g3 [N64 x.ep, Str x.par, I x.dep, I x.aud, .slice A x.nodes.length c] 57, m2] _
        refine J.y (op_move rfl rfl) rfl rfl rfl ?_
        refine J.y (op_extract (v := .agg #[N64 x.ep, Str x.par, I x.dep, I x.aud, .slice B x.nodes.length e]) rfl rfl rfl) rfl rfl rfl ?_
        refine J.y (op_extract (v := I 0) rfl rfl rfl) rfl rfl rfl ?_
        refine J.e (op_alloc rfl Tryd.zeroValue57 rfl) rfl rfl rfl ?_
        intro g10 _
        change J _ _ _ [F, blk g1 [N64 ep, Str p, I d, I a, Str ns] 55, m, blk g3 [N64 x.ep, Str x.par, I x.dep, I x.aud, .slice A x.nodes.length c] 57, m2, blk g10 _ 57] _
        refine J.s (op_storeAll (l := [N64 0, Str [], I 0, I 0, .slice none 0 0]) (i := 5) (vs := [N64 x.ep, Str x.par, I x.dep, I x.aud, .slice B x.nodes.length e]) rfl rfl rfl rfl rfl Tryd.sizeOf57 rfl rfl) rfl rfl (fun _ _ => ?_)
        change J _ _ _ [F, blk g1 [N64 ep, Str p, I d, I a, Str ns] 55, m, blk g3 [N64 x.ep, Str x.par, I x.dep, I x.aud, .slice A x.nodes.length c] 57, m2, blk g10 [N64 x.ep, Str x.par, I x.dep, I x.aud, .slice B x.nodes.length e] 57] _
        refine J.y (op_assign rfl rfl) rfl rfl rfl ?_
        refine J.nil ?_
        refine J.then_n (J.k hK20 ?_)
        refine J.keepE [(3, _), (10, _), (11, _)] ⟨rfl, rfl, rfl, trivial⟩ ?_
        refine J.seq (fun K21 hK21 => ?_)
        refine J.region ?_
        refine J.y (op_move rfl rfl) rfl rfl rfl ?_
        refine J.y ((op_eql rfl rfl rfl).as (v' := .bool true) (congrArg Value.bool (decide_eq_true (rfl)))) rfl rfl rfl ?_
        refine J.y (op_move rfl rfl) rfl rfl rfl ?_
        refine J.yg (Wan.is rfl rfl rfl rfl rfl) (op_loadBA 5 rfl rfl rfl Tryd.isAgg57 Tryd.sizeOf57 rfl) rfl rfl ?_
        refine J.yg (Wan.is rfl rfl rfl rfl rfl) (op_loadBA 3 rfl rfl rfl Tryd.isAgg57 Tryd.sizeOf57 rfl) rfl rfl ?_
        refine J.eg (Wan.is rfl rfl rfl rfl rfl) (op_call rfl rfl ent48 (Ct.use0 (fun F' hF => hsame_ct F' x B e hg (hm2.mono (hF m2 (by simp))) x A c hg (hsl.mono (hF m (by simp)))))) rfl rfl ?_
        intro g88 _
        refine J.y (op_pickT rfl rfl rfl) rfl rfl rfl ?_
        refine J.y (op_assign rfl rfl) rfl rfl rfl ?_
        refine J.nil ?_
        refine J.then_n (J.k hK21 ?_)
        refine J.keepE [(2, _)] ⟨rfl, trivial⟩ ?_
        refine J.ret ?_
        exact J.done hw0 (fun _ _ h => h) (res1 rfl rfl) (retOk () (by first | rfl | exact congrArg Value.bool (decide_eq_true ((same_self x).2 e0))) trivial [0] rfl (by decide))
  ·
    refine J.no (Wan.is rfl rfl rfl rfl rfl) rfl rfl ?_
    refine J.no (Wan.is rfl rfl rfl rfl rfl) rfl rfl ?_
    refine J.no (Wan.is rfl rfl rfl rfl rfl) rfl rfl ?_
    refine J.no (Wan.is rfl rfl rfl rfl rfl) rfl rfl ?_
    refine J.y (op_pickF rfl rfl rfl) rfl rfl rfl ?_
    refine J.y (op_move rfl rfl) rfl rfl rfl ?_
    refine J.yg (Wan.is rfl rfl rfl rfl rfl) (op_move rfl rfl) rfl rfl ?_
    refine J.yg (Wan.is rfl rfl rfl rfl rfl) (op_neq rfl rfl rfl) rfl rfl ?_
    refine J.yg (Wan.is rfl rfl rfl rfl rfl) (op_move rfl rfl) rfl rfl ?_
    refine J.split (d := 70) rfl (fun h70 => ?_) (fun h70 => ?_)
    ·
      refine J.yg (Wan.is rfl rfl rfl rfl rfl) (op_loadBA 3 rfl rfl rfl Tryd.isAgg57 Tryd.sizeOf57 rfl) rfl rfl ?_
      refine J.eg (Wan.is rfl rfl rfl rfl rfl) (op_call rfl rfl ent50 (Ct.use0 (fun F' hF => hroot_ct F' (hK.mono (hF F (by simp))) x A c hg (hsl.mono (hF m (by simp))) hsm))) rfl rfl ?_
      intro g72 _
      refine J.yg (Wan.is rfl rfl rfl rfl rfl) ((op_sne rfl rfl rfl).as (v' := .bool false) (congrArg Value.bool (decide_eq_false (fun h => h (brVal_nil (by omega)))))) rfl rfl ?_
      refine J.yg (Wan.is rfl rfl rfl rfl rfl) (op_pickT rfl rfl rfl) rfl rfl ?_
      refine J.y (op_pickF rfl rfl rfl) rfl rfl rfl ?_
      refine J.nil ?_
      refine J.then_n (J.k hK11 ?_)
      refine J.keepE [(3, _), (4, _), (7, _), (75, _)] ⟨rfl, rfl, rfl, rfl, trivial⟩ ?_
      refine J.condF rfl rfl ?_
      refine J.skip ?_
      refine J.then_n (J.k hK10 ?_)
      refine J.keepE [(3, _), (4, _), (7, _)] ⟨rfl, rfl, rfl, trivial⟩ ?_
      refine J.seq (fun K22 hK22 => ?_)
      refine J.seq (fun K23 hK23 => ?_)
      refine J.region ?_
      refine J.y (op_move rfl rfl) rfl rfl rfl ?_
      refine J.y (op_neq rfl rfl rfl) rfl rfl rfl ?_
      refine J.nil ?_
      refine J.then_n (J.k hK23 ?_)
      refine J.keepE [(3, _), (4, _), (77, _)] ⟨rfl, rfl, rfl, trivial⟩ ?_
      refine J.ite rfl (fun h77 => ?_) (fun h77 => ?_)
      ·
        refine J.seq (fun K24 hK24 => ?_)
        refine J.region ?_
        refine J.y (op_assign rfl rfl) rfl rfl rfl ?_
        refine J.nil ?_
        refine J.then_n (J.k hK24 ?_)
        refine J.keepE [(2, _)] ⟨rfl, trivial⟩ ?_
        refine J.ret ?_
        refine J.then_r ?_
        exact J.done hw0 (fun _ _ h => h) (res1 rfl rfl) (retOk () (by first | rfl | exact congrArg Value.bool (decide_eq_true ((same_self x).2 e0))) trivial [0] rfl (by decide))
      ·
        refine J.skip ?_
        refine J.then_n (J.k hK22 ?_)
        refine J.keepE [(3, _), (4, _)] ⟨rfl, rfl, trivial⟩ ?_
        refine J.seq (fun K25 hK25 => ?_)
        have e0 : x.err = 0 := by omega
        refine J.region ?_
        refine J.y (op_move rfl rfl) rfl rfl rfl ?_
        refine J.e (op_call rfl rfl ent46 (Ct.use (new := fun y : Option Addr × Nat × Hp => [y.2.2]) (fun F' _ => hdecode_back F' x e0))) rfl rfl rfl ?_
        rintro ⟨B, e, m2⟩ hm2
        try dsimp only at hm2
        change J _ _ _ [F, blk g1 [N64 ep, Str p, I d, I a, Str ns] 55, m, blk g3 [N64 x.ep, Str x.par, I x.dep, I x.aud, .slice A x.nodes.length c] 57, m2] _
        refine J.y (op_move rfl rfl) rfl rfl rfl ?_
        refine J.y (op_extract (v := .agg #[N64 x.ep, Str x.par, I x.dep, I x.aud, .slice B x.nodes.length e]) rfl rfl rfl) rfl rfl rfl ?_
        refine J.y (op_extract (v := I 0) rfl rfl rfl) rfl rfl rfl ?_
        refine J.e (op_alloc rfl Tryd.zeroValue57 rfl) rfl rfl rfl ?_
        intro g10 _
        change J _ _ _ [F, blk g1 [N64 ep, Str p, I d, I a, Str ns] 55, m, blk g3 [N64 x.ep, Str x.par, I x.dep, I x.aud, .slice A x.nodes.length c] 57, m2, blk g10 _ 57] _
        refine J.s (op_storeAll (l := [N64 0, Str [], I 0, I 0, .slice none 0 0]) (i := 5) (vs := [N64 x.ep, Str x.par, I x.dep, I x.aud, .slice B x.nodes.length e]) rfl rfl rfl rfl rfl Tryd.sizeOf57 rfl rfl) rfl rfl (fun _ _ => ?_)
        change J _ _ _ [F, blk g1 [N64 ep, Str p, I d, I a, Str ns] 55, m, blk g3 [N64 x.ep, Str x.par, I x.dep, I x.aud, .slice A x.nodes.length c] 57, m2, blk g10 [N64 x.ep, Str x.par, I x.dep, I x.aud, .slice B x.nodes.length e] 57] _
        refine J.y (op_assign rfl rfl) rfl rfl rfl ?_
        refine J.nil ?_
        refine J.then_n (J.k hK25 ?_)
        refine J.keepE [(3, _), (10, _), (11, _)] ⟨rfl, rfl, rfl, trivial⟩ ?_
        refine J.seq (fun K26 hK26 => ?_)
        refine J.region ?_
        refine J.y (op_move rfl rfl) rfl rfl rfl ?_
        refine J.y ((op_eql rfl rfl rfl).as (v' := .bool true) (congrArg Value.bool (decide_eq_true (rfl)))) rfl rfl rfl ?_
        refine J.y (op_move rfl rfl) rfl rfl rfl ?_
        refine J.yg (Wan.is rfl rfl rfl rfl rfl) (op_loadBA 5 rfl rfl rfl Tryd.isAgg57 Tryd.sizeOf57 rfl) rfl rfl ?_
        refine J.yg (Wan.is rfl rfl rfl rfl rfl) (op_loadBA 3 rfl rfl rfl Tryd.isAgg57 Tryd.sizeOf57 rfl) rfl rfl ?_
        refine J.eg (Wan.is rfl rfl rfl rfl rfl) (op_call rfl rfl ent48 (Ct.use0 (fun F' hF => hsame_ct F' x B e hg (hm2.mono (hF m2 (by simp))) x A c hg (hsl.mono (hF m (by simp)))))) rfl rfl ?_
        intro g88 _
        refine J.y (op_pickT rfl rfl rfl) rfl rfl rfl ?_
        refine J.y (op_assign rfl rfl) rfl rfl rfl ?_
        refine J.nil ?_
        refine J.then_n (J.k hK26 ?_)
        refine J.keepE [(2, _)] ⟨rfl, trivial⟩ ?_
        refine J.ret ?_
        exact J.done hw0 (fun _ _ h => h) (res1 rfl rfl) (retOk () (by first | rfl | exact congrArg Value.bool (decide_eq_true ((same_self x).2 e0))) trivial [0] rfl (by decide))
    ·
      refine J.no (Wan.is rfl rfl rfl rfl rfl) rfl rfl ?_
      refine J.no (Wan.is rfl rfl rfl rfl rfl) rfl rfl ?_
      refine J.no (Wan.is rfl rfl rfl rfl rfl) rfl rfl ?_
      refine J.yg (Wan.is rfl rfl rfl rfl rfl) (op_pickF rfl rfl rfl) rfl rfl ?_
      refine J.y (op_pickF rfl rfl rfl) rfl rfl rfl ?_
      refine J.nil ?_
      refine J.then_n (J.k hK11 ?_)
      refine J.keepE [(3, _), (4, _), (7, _), (75, _)] ⟨rfl, rfl, rfl, rfl, trivial⟩ ?_
      refine J.condF rfl rfl ?_
      refine J.skip ?_
      refine J.then_n (J.k hK10 ?_)
      refine J.keepE [(3, _), (4, _), (7, _)] ⟨rfl, rfl, rfl, trivial⟩ ?_
      refine J.seq (fun K27 hK27 => ?_)
      refine J.seq (fun K28 hK28 => ?_)
      refine J.region ?_
      refine J.y (op_move rfl rfl) rfl rfl rfl ?_
      refine J.y (op_neq rfl rfl rfl) rfl rfl rfl ?_
      refine J.nil ?_
      refine J.then_n (J.k hK28 ?_)
      refine J.keepE [(3, _), (4, _), (77, _)] ⟨rfl, rfl, rfl, trivial⟩ ?_
      refine J.ite rfl (fun h77 => ?_) (fun h77 => ?_)
      ·
        refine J.seq (fun K29 hK29 => ?_)
        refine J.region ?_
        refine J.y (op_assign rfl rfl) rfl rfl rfl ?_
        refine J.nil ?_
        refine J.then_n (J.k hK29 ?_)
        refine J.keepE [(2, _)] ⟨rfl, trivial⟩ ?_
        refine J.ret ?_
        refine J.then_r ?_
        exact J.done hw0 (fun _ _ h => h) (res1 rfl rfl) (retOk () (by first | rfl | exact congrArg Value.bool (decide_eq_true ((same_self x).2 e0))) trivial [0] rfl (by decide))
      ·
        refine J.skip ?_
        refine J.then_n (J.k hK27 ?_)
        refine J.keepE [(3, _), (4, _)] ⟨rfl, rfl, trivial⟩ ?_
        refine J.seq (fun K30 hK30 => ?_)
        have e0 : x.err = 0 := by omega
        refine J.region ?_
        refine J.y (op_move rfl rfl) rfl rfl rfl ?_
        refine J.e (op_call rfl rfl ent46 (Ct.use (new := fun y : Option Addr × Nat × Hp => [y.2.2]) (fun F' _ => hdecode_back F' x e0))) rfl rfl rfl ?_
        rintro ⟨B, e, m2⟩ hm2
        try dsimp only at hm2
        change J _ _ _ [F, blk g1 [N64 ep, Str p, I d, I a, Str ns] 55, m, blk g3 [N64 x.ep, Str x.par, I x.dep, I x.aud, .slice A x.nodes.length c] 57, m2] _
        refine J.y (op_move rfl rfl) rfl rfl rfl ?_
        refine J.y (op_extract (v := .agg #[N64 x.ep, Str x.par, I x.dep, I x.aud, .slice B x.nodes.length e]) rfl rfl rfl) rfl rfl rfl ?_
        refine J.y (op_extract (v := I 0) rfl rfl rfl) rfl rfl rfl ?_
        refine J.e (op_alloc rfl Tryd.zeroValue57 rfl) rfl rfl rfl ?_
        intro g10 _
        change J _ _ _ [F, blk g1 [N64 ep, Str p, I d, I a, Str ns] 55, m, blk g3 [N64 x.ep, Str x.par, I x.dep, I x.aud, .slice A x.nodes.length c] 57, m2, blk g10 _ 57] _
        refine J.s (op_storeAll (l := [N64 0, Str [], I 0, I 0, .slice none 0 0]) (i := 5) (vs := [N64 x.ep, Str x.par, I x.dep, I x.aud, .slice B x.nodes.length e]) rfl rfl rfl rfl rfl Tryd.sizeOf57 rfl rfl) rfl rfl (fun _ _ => ?_)
        change J _ _ _ [F, blk g1 [N64 ep, Str p, I d, I a, Str ns] 55, m, blk g3 [N64 x.ep, Str x.par, I x.dep, I x.aud, .slice A x.nodes.length c] 57, m2, blk g10 [N64 x.ep, Str x.par, I x.dep, I x.aud, .slice B x.nodes.length e] 57] _
        refine J.y (op_assign rfl rfl) rfl rfl rfl ?_
        refine J.nil ?_
        refine J.then_n (J.k hK30 ?_)
        refine J.keepE [(3, _), (10, _), (11, _)] ⟨rfl, rfl, rfl, trivial⟩ ?_
        refine J.seq (fun K31 hK31 => ?_)
        refine J.region ?_
        refine J.y (op_move rfl rfl) rfl rfl rfl ?_
        refine J.y ((op_eql rfl rfl rfl).as (v' := .bool true) (congrArg Value.bool (decide_eq_true (rfl)))) rfl rfl rfl ?_
        refine J.y (op_move rfl rfl) rfl rfl rfl ?_
        refine J.yg (Wan.is rfl rfl rfl rfl rfl) (op_loadBA 5 rfl rfl rfl Tryd.isAgg57 Tryd.sizeOf57 rfl) rfl rfl ?_
        refine J.yg (Wan.is rfl rfl rfl rfl rfl) (op_loadBA 3 rfl rfl rfl Tryd.isAgg57 Tryd.sizeOf57 rfl) rfl rfl ?_
        refine J.eg (Wan.is rfl rfl rfl rfl rfl) (op_call rfl rfl ent48 (Ct.use0 (fun F' hF => hsame_ct F' x B e hg (hm2.mono (hF m2 (by simp))) x A c hg (hsl.mono (hF m (by simp)))))) rfl rfl ?_
        intro g88 _
        refine J.y (op_pickT rfl rfl rfl) rfl rfl rfl ?_
        refine J.y (op_assign rfl rfl) rfl rfl rfl ?_
        refine J.nil ?_
        refine J.then_n (J.k hK31 ?_)
        refine J.keepE [(2, _)] ⟨rfl, trivial⟩ ?_
        refine J.ret ?_
        exact J.done hw0 (fun _ _ h => h) (res1 rfl rfl) (retOk () (by first | rfl | exact congrArg Value.bool (decide_eq_true ((same_self x).2 e0))) trivial [0] rfl (by decide))

theorem hdr_of {H : Type} {enc : TypeId × Value → H} {W : World} {r : Reach} {b0 : Nat} {v : Value} {d : DataW H} {ps : List MemPlace} (hval : Value.okWide Tryd.prog W r b0 55 v) (h : DataW.Trod enc Tryd.prog W 0 (fun _ => true) true 55 v d ps) :
    ∃ (ep : UInt64) (p : List UInt8) (d a : Int) (ns : List UInt8), v = .agg #[W64 ep, Str p, I d, I a, Str ns] := by
  obtain ⟨x, rfl, fuel, y, h1⟩ := open_struct Tryd.underlying55 hval h
  obtain ⟨hl, hf⟩ := struct_of Tryd.underlying55 h1
  have hc : Tryd.prog.cellsOf 55 = 5 := by kernel_rfl
  have c3 : Tryd.prog.cellsOf 3 = 1 := by kernel_rfl
  have c8 : Tryd.prog.cellsOf 47 = 1 := by kernel_rfl
  have c9 : Tryd.prog.cellsOf 9 = 1 := by kernel_rfl
  rw [hc] at hl
  match x, hl, hf with
  | [a, b, c, e, g], _, hf =>
    obtain ⟨_, _, h0⟩ := hf 0 _ rfl
    obtain ⟨_, _, h1⟩ := hf 1 _ rfl
    obtain ⟨_, _, h2⟩ := hf 2 _ rfl
    obtain ⟨_, _, h3⟩ := hf 3 _ rfl
    obtain ⟨_, _, h4⟩ := hf 4 _ rfl
    dsimp only at h0 h1 h2 h3 h4
    rw [c8] at h0
    rw [c9] at h1 h4
    rw [c3] at h2 h3
    obtain ⟨z0, rfl⟩ := u64_of Tryd.underlying47 h0
    obtain ⟨s1, rfl⟩ := str_of Tryd.underlying9 h1
    obtain ⟨z2, rfl, _⟩ := i64_of Tryd.underlying3 h2
    obtain ⟨z3, rfl, _⟩ := i64_of Tryd.underlying3 h3
    obtain ⟨s4, rfl⟩ := str_of Tryd.underlying9 h4
    exact ⟨z0, s1, z2, z3, s4, rfl⟩

end Go.Proofs.YtlopnfgacopkbaaDoor
