/- A part of the proof: contracts of functions of the program, each for every state of the heaps that it names. -/
import Derived.Test.YtlopnfgacopkbaaDoorHdl
import Derived.Test.YtlopnfgacopkbaaDoorFwR
set_option linter.unusedSimpArgs false
set_option linter.unusedVariables false
namespace Go.Proofs.YtlopnfgacopkbaaDoor
open Go Go.Fw
set_option maxRecDepth 100000
set_option maxHeartbeats 1000000
theorem ent27 : Enters Tryd.prog 27 := Enters.of Tryd.func27 rfl (by kernel_rfl)
theorem ent28 : Enters Tryd.prog 28 := Enters.of Tryd.func28 rfl (by kernel_rfl)
theorem ent29 : Enters Tryd.prog 29 := Enters.of Tryd.func29 rfl (by kernel_rfl)
theorem ent30 : Enters Tryd.prog 30 := Enters.of Tryd.func30 rfl (by kernel_rfl)

theorem headerChains_ct (F : Hp) (hK : Cells F ⟨0, 0, none⟩ (Sha.K.map W32)) (ep : Nat) (hep : ep < 18446744073709551616) (p : List UInt8) (d a : Int) (ns : List UInt8) (ep2 : Nat) (hep2 : ep2 < 18446744073709551616) (p2 : List UInt8) (d2 a2 : Int) (ns2 : List UInt8) (how : UInt8) :
    Ct Tryd.prog 5 [.agg #[N64 ep, Str p, I d, I a, Str ns], .agg #[N64 ep2, Str p2, I d2, I a2, Str ns2], B8 how] [F] (fun _ : Unit => .bool true) (fun _ => True) (fun _ => [F]) := by
  obtain ⟨x, hx⟩ : ∃ x, x = told ep p d a ns := ⟨_, rfl⟩
  have hg : x.good := hx ▸ told_good p d a ns hep
  obtain ⟨z, hz⟩ : ∃ z, z = told ep2 p2 d2 a2 ns2 := ⟨_, rfl⟩
  have hgz : z.good := hz ▸ told_good p2 d2 a2 ns2 hep2
  have hdl := dig_small x
  refine Ct.walk Tryd.func5 rfl Tryd.ntmps5 rfl (fun w0 hw0 => ?_)
  change J _ [(0, _), (1, _), (2, _)] _ _ _
  refine J.seq (fun K1 hK1 => ?_)
  refine J.region ?_
  refine J.e (op_box rfl rfl (l := [N64 ep, Str p, I d, I a, Str ns]) rfl) rfl rfl rfl ?_
  intro g3 _
  change J _ _ _ [F, blk g3 [N64 ep, Str p, I d, I a, Str ns] 55] _
  refine J.e (op_box rfl rfl (l := [N64 ep2, Str p2, I d2, I a2, Str ns2]) rfl) rfl rfl rfl ?_
  intro g4 _
  change J _ _ _ [F, blk g3 [N64 ep, Str p, I d, I a, Str ns] 55, blk g4 [N64 ep2, Str p2, I d2, I a2, Str ns2] 55] _
  refine J.y (op_assign rfl rfl) rfl rfl rfl ?_
  refine J.nil ?_
  refine J.then_n (J.k hK1 ?_)
  refine J.keepE [(2, _), (3, _), (4, _)] ⟨rfl, rfl, rfl, trivial⟩ ?_
  refine J.seq (fun K2 hK2 => ?_)
  refine J.seq (fun K3 hK3 => ?_)
  refine J.region ?_
  refine J.e (op_call rfl rfl ent27 (Ct.use0 (fun F' hF => speaks19_ct F' (hK.mono (hF F (by simp)))))) rfl rfl rfl ?_
  intro g13 _
  refine J.y ((op_not rfl rfl).as (v' := .bool false) rfl) rfl rfl rfl ?_
  refine J.nil ?_
  refine J.then_n (J.k hK3 ?_)
  refine J.keepE [(2, _), (3, _), (4, _), (14, _)] ⟨rfl, rfl, rfl, rfl, trivial⟩ ?_
  refine J.condF rfl rfl ?_
  refine J.skip ?_
  refine J.then_n (J.k hK2 ?_)
  refine J.keepE [(2, _), (3, _), (4, _)] ⟨rfl, rfl, rfl, trivial⟩ ?_
  refine J.cut (fun t : Option Addr × Nat × Hp × Option Addr × Nat × Hp × Nat × Nat => [(2, B8 how), (7, Ptr t.2.2.2.2.2.2.1), (8, Ptr t.2.2.2.2.2.2.2)]) (fun t => [F, blk g3 [N64 ep, Str p, I d, I a, Str ns] 55, blk g4 [N64 ep2, Str p2, I d2, I a2, Str ns2] 55, t.2.2.1, t.2.2.2.2.2.1, blk t.2.2.2.2.2.2.1 [N64 x.ep, Str x.par, I x.dep, I x.aud, .slice t.1 x.nodes.length t.2.1] 57, blk t.2.2.2.2.2.2.2 [N64 z.ep, Str z.par, I z.dep, I z.aud, .slice t.2.2.2.1 z.nodes.length t.2.2.2.2.1] 57]) (fun t => Sl t.2.2.1 1 t.1 x.nodes.length t.2.1 (strsV x.nodes) ∧ Sl t.2.2.2.2.2.1 1 t.2.2.2.1 z.nodes.length t.2.2.2.2.1 (strsV z.nodes)) (fun K4 hK4 => ?_) ?_
  ·
    refine J.draw [blk g3 [N64 ep, Str p, I d, I a, Str ns] 55, blk g4 [N64 ep2, Str p2, I d2, I a2, Str ns2] 55] [6, 7] (.y 0 (.y 2 (.br (.e 1 (.br (.e 3 (.br (.e 4 (.e 5 (.e 6 (.e 7 .nil)))) (.e 5 (.e 4 (.e 6 (.e 7 .nil)))))) (.br (.e 4 (.br (.e 3 (.e 5 (.e 6 (.e 7 .nil)))) (.e 5 (.e 3 (.e 6 (.e 7 .nil)))))) (.e 5 (.br (.e 3 (.e 4 (.e 6 (.e 7 .nil)))) (.e 4 (.e 3 (.e 6 (.e 7 .nil))))))))) (.br (.e 4 (.br (.e 1 (.br (.e 3 (.e 5 (.e 6 (.e 7 .nil)))) (.e 5 (.e 3 (.e 6 (.e 7 .nil)))))) (.e 5 (.e 1 (.e 3 (.e 6 (.e 7 .nil))))))) (.e 5 (.br (.e 1 (.br (.e 3 (.e 4 (.e 6 (.e 7 .nil)))) (.e 4 (.e 3 (.e 6 (.e 7 .nil)))))) (.e 4 (.e 1 (.e 3 (.e 6 (.e 7 .nil))))))))))) Tryd.wide (by decide +kernel) (by simp) ?_
    refine J.dy rfl (op_loadBA 0 rfl rfl rfl Tryd.isAgg55 Tryd.sizeOf55 rfl) rfl rfl rfl rfl ?_
    refine J.dy rfl (op_loadBA 1 rfl rfl rfl Tryd.isAgg55 Tryd.sizeOf55 rfl) rfl rfl rfl rfl ?_
    refine J.dbr ?_ ?_
    ·
      refine J.de rfl (op_call rfl rfl ent28 (Ct.use (new := fun y : Option Addr × Nat × Hp => [y.2.2]) (fun F' _ => told_ct2 F' ep hep p d a ns x hx))) rfl rfl rfl (by simp) ?_
      rintro ⟨A, c, mA⟩ hsl
      try dsimp only at hsl
      change J _ _ _ [F, blk g3 [N64 ep, Str p, I d, I a, Str ns] 55, blk g4 [N64 ep2, Str p2, I d2, I a2, Str ns2] 55, mA] _
      refine J.dbr ?_ ?_
      ·
        refine J.de rfl (op_call rfl rfl ent28 (Ct.use (new := fun y : Option Addr × Nat × Hp => [y.2.2]) (fun F' _ => told_ct2 F' ep2 hep2 p2 d2 a2 ns2 z hz))) rfl rfl rfl (by simp) ?_
        rintro ⟨B, e, mB⟩ hsz
        try dsimp only at hsz
        change J _ _ _ [F, blk g3 [N64 ep, Str p, I d, I a, Str ns] 55, blk g4 [N64 ep2, Str p2, I d2, I a2, Str ns2] 55, mA, mB] _
        refine J.dbr ?_ ?_
        ·
          refine J.de rfl (op_alloc rfl Tryd.zeroValue57 rfl) rfl rfl rfl (by simp) ?_
          intro g7 _
          change J _ _ _ [F, blk g3 [N64 ep, Str p, I d, I a, Str ns] 55, blk g4 [N64 ep2, Str p2, I d2, I a2, Str ns2] 55, mA, mB, blk g7 _ 57] _
          refine J.de rfl (op_alloc rfl Tryd.zeroValue57 rfl) rfl rfl rfl (by simp) ?_
          intro g8 _
          change J _ _ _ [F, blk g3 [N64 ep, Str p, I d, I a, Str ns] 55, blk g4 [N64 ep2, Str p2, I d2, I a2, Str ns2] 55, mA, mB, blk g7 _ 57, blk g8 _ 57] _
          refine J.ds rfl (op_storeAll (l := [N64 0, Str [], I 0, I 0, .slice none 0 0]) (i := 5) (vs := [N64 x.ep, Str x.par, I x.dep, I x.aud, .slice A x.nodes.length c]) rfl rfl rfl rfl rfl Tryd.sizeOf57 rfl rfl) rfl rfl rfl (fun _ _ => ?_)
          change J _ _ _ [F, blk g3 [N64 ep, Str p, I d, I a, Str ns] 55, blk g4 [N64 ep2, Str p2, I d2, I a2, Str ns2] 55, mA, mB, blk g7 [N64 x.ep, Str x.par, I x.dep, I x.aud, .slice A x.nodes.length c] 57, blk g8 _ 57] _
          refine J.ds rfl (op_storeAll (l := [N64 0, Str [], I 0, I 0, .slice none 0 0]) (i := 6) (vs := [N64 z.ep, Str z.par, I z.dep, I z.aud, .slice B z.nodes.length e]) rfl rfl rfl rfl rfl Tryd.sizeOf57 rfl rfl) rfl rfl rfl (fun _ _ => ?_)
          change J _ _ _ [F, blk g3 [N64 ep, Str p, I d, I a, Str ns] 55, blk g4 [N64 ep2, Str p2, I d2, I a2, Str ns2] 55, mA, mB, blk g7 [N64 x.ep, Str x.par, I x.dep, I x.aud, .slice A x.nodes.length c] 57, blk g8 [N64 z.ep, Str z.par, I z.dep, I z.aud, .slice B z.nodes.length e] 57] _
          refine J.perm [0, 1, 2, 3, 4, 5, 6] [F, blk g3 [N64 ep, Str p, I d, I a, Str ns] 55, blk g4 [N64 ep2, Str p2, I d2, I a2, Str ns2] 55, mA, mB, blk g7 [N64 x.ep, Str x.par, I x.dep, I x.aud, .slice A x.nodes.length c] 57, blk g8 [N64 z.ep, Str z.par, I z.dep, I z.aud, .slice B z.nodes.length e] 57] rfl (by decide) ?_
          refine J.dnil ?_
          refine J.then_n ?_
          exact J.kk (A, c, mA, B, e, mB, g7, g8) hK4 ⟨hsl, hsz⟩ ⟨rfl, rfl, rfl, trivial⟩ (fun _ h => h)
        ·
          refine J.de rfl (op_alloc rfl Tryd.zeroValue57 rfl) rfl rfl rfl (by simp) ?_
          intro g8 _
          change J _ _ _ [F, blk g3 [N64 ep, Str p, I d, I a, Str ns] 55, blk g4 [N64 ep2, Str p2, I d2, I a2, Str ns2] 55, mA, mB, blk g8 _ 57] _
          refine J.de rfl (op_alloc rfl Tryd.zeroValue57 rfl) rfl rfl rfl (by simp) ?_
          intro g7 _
          change J _ _ _ [F, blk g3 [N64 ep, Str p, I d, I a, Str ns] 55, blk g4 [N64 ep2, Str p2, I d2, I a2, Str ns2] 55, mA, mB, blk g8 _ 57, blk g7 _ 57] _
          refine J.ds rfl (op_storeAll (l := [N64 0, Str [], I 0, I 0, .slice none 0 0]) (i := 6) (vs := [N64 x.ep, Str x.par, I x.dep, I x.aud, .slice A x.nodes.length c]) rfl rfl rfl rfl rfl Tryd.sizeOf57 rfl rfl) rfl rfl rfl (fun _ _ => ?_)
          change J _ _ _ [F, blk g3 [N64 ep, Str p, I d, I a, Str ns] 55, blk g4 [N64 ep2, Str p2, I d2, I a2, Str ns2] 55, mA, mB, blk g8 _ 57, blk g7 [N64 x.ep, Str x.par, I x.dep, I x.aud, .slice A x.nodes.length c] 57] _
          refine J.ds rfl (op_storeAll (l := [N64 0, Str [], I 0, I 0, .slice none 0 0]) (i := 5) (vs := [N64 z.ep, Str z.par, I z.dep, I z.aud, .slice B z.nodes.length e]) rfl rfl rfl rfl rfl Tryd.sizeOf57 rfl rfl) rfl rfl rfl (fun _ _ => ?_)
          change J _ _ _ [F, blk g3 [N64 ep, Str p, I d, I a, Str ns] 55, blk g4 [N64 ep2, Str p2, I d2, I a2, Str ns2] 55, mA, mB, blk g8 [N64 z.ep, Str z.par, I z.dep, I z.aud, .slice B z.nodes.length e] 57, blk g7 [N64 x.ep, Str x.par, I x.dep, I x.aud, .slice A x.nodes.length c] 57] _
          refine J.perm [0, 1, 2, 3, 4, 6, 5] [F, blk g3 [N64 ep, Str p, I d, I a, Str ns] 55, blk g4 [N64 ep2, Str p2, I d2, I a2, Str ns2] 55, mA, mB, blk g7 [N64 x.ep, Str x.par, I x.dep, I x.aud, .slice A x.nodes.length c] 57, blk g8 [N64 z.ep, Str z.par, I z.dep, I z.aud, .slice B z.nodes.length e] 57] rfl (by decide) ?_
          refine J.dnil ?_
          refine J.then_n ?_
          exact J.kk (A, c, mA, B, e, mB, g7, g8) hK4 ⟨hsl, hsz⟩ ⟨rfl, rfl, rfl, trivial⟩ (fun _ h => h)
      refine J.dbr ?_ ?_
      ·
        refine J.de rfl (op_alloc rfl Tryd.zeroValue57 rfl) rfl rfl rfl (by simp) ?_
        intro g7 _
        change J _ _ _ [F, blk g3 [N64 ep, Str p, I d, I a, Str ns] 55, blk g4 [N64 ep2, Str p2, I d2, I a2, Str ns2] 55, mA, blk g7 _ 57] _
        refine J.dbr ?_ ?_
        ·
          refine J.de rfl (op_call rfl rfl ent28 (Ct.use (new := fun y : Option Addr × Nat × Hp => [y.2.2]) (fun F' _ => told_ct2 F' ep2 hep2 p2 d2 a2 ns2 z hz))) rfl rfl rfl (by simp) ?_
          rintro ⟨B, e, mB⟩ hsz
          try dsimp only at hsz
          change J _ _ _ [F, blk g3 [N64 ep, Str p, I d, I a, Str ns] 55, blk g4 [N64 ep2, Str p2, I d2, I a2, Str ns2] 55, mA, blk g7 _ 57, mB] _
          refine J.de rfl (op_alloc rfl Tryd.zeroValue57 rfl) rfl rfl rfl (by simp) ?_
          intro g8 _
          change J _ _ _ [F, blk g3 [N64 ep, Str p, I d, I a, Str ns] 55, blk g4 [N64 ep2, Str p2, I d2, I a2, Str ns2] 55, mA, blk g7 _ 57, mB, blk g8 _ 57] _
          refine J.ds rfl (op_storeAll (l := [N64 0, Str [], I 0, I 0, .slice none 0 0]) (i := 4) (vs := [N64 x.ep, Str x.par, I x.dep, I x.aud, .slice A x.nodes.length c]) rfl rfl rfl rfl rfl Tryd.sizeOf57 rfl rfl) rfl rfl rfl (fun _ _ => ?_)
          change J _ _ _ [F, blk g3 [N64 ep, Str p, I d, I a, Str ns] 55, blk g4 [N64 ep2, Str p2, I d2, I a2, Str ns2] 55, mA, blk g7 [N64 x.ep, Str x.par, I x.dep, I x.aud, .slice A x.nodes.length c] 57, mB, blk g8 _ 57] _
          refine J.ds rfl (op_storeAll (l := [N64 0, Str [], I 0, I 0, .slice none 0 0]) (i := 6) (vs := [N64 z.ep, Str z.par, I z.dep, I z.aud, .slice B z.nodes.length e]) rfl rfl rfl rfl rfl Tryd.sizeOf57 rfl rfl) rfl rfl rfl (fun _ _ => ?_)
          change J _ _ _ [F, blk g3 [N64 ep, Str p, I d, I a, Str ns] 55, blk g4 [N64 ep2, Str p2, I d2, I a2, Str ns2] 55, mA, blk g7 [N64 x.ep, Str x.par, I x.dep, I x.aud, .slice A x.nodes.length c] 57, mB, blk g8 [N64 z.ep, Str z.par, I z.dep, I z.aud, .slice B z.nodes.length e] 57] _
          refine J.perm [0, 1, 2, 3, 5, 4, 6] [F, blk g3 [N64 ep, Str p, I d, I a, Str ns] 55, blk g4 [N64 ep2, Str p2, I d2, I a2, Str ns2] 55, mA, mB, blk g7 [N64 x.ep, Str x.par, I x.dep, I x.aud, .slice A x.nodes.length c] 57, blk g8 [N64 z.ep, Str z.par, I z.dep, I z.aud, .slice B z.nodes.length e] 57] rfl (by decide) ?_
          refine J.dnil ?_
          refine J.then_n ?_
          exact J.kk (A, c, mA, B, e, mB, g7, g8) hK4 ⟨hsl, hsz⟩ ⟨rfl, rfl, rfl, trivial⟩ (fun _ h => h)
        ·
          refine J.de rfl (op_alloc rfl Tryd.zeroValue57 rfl) rfl rfl rfl (by simp) ?_
          intro g8 _
          change J _ _ _ [F, blk g3 [N64 ep, Str p, I d, I a, Str ns] 55, blk g4 [N64 ep2, Str p2, I d2, I a2, Str ns2] 55, mA, blk g7 _ 57, blk g8 _ 57] _
          refine J.de rfl (op_call rfl rfl ent28 (Ct.use (new := fun y : Option Addr × Nat × Hp => [y.2.2]) (fun F' _ => told_ct2 F' ep2 hep2 p2 d2 a2 ns2 z hz))) rfl rfl rfl (by simp) ?_
          rintro ⟨B, e, mB⟩ hsz
          try dsimp only at hsz
          change J _ _ _ [F, blk g3 [N64 ep, Str p, I d, I a, Str ns] 55, blk g4 [N64 ep2, Str p2, I d2, I a2, Str ns2] 55, mA, blk g7 _ 57, blk g8 _ 57, mB] _
          refine J.ds rfl (op_storeAll (l := [N64 0, Str [], I 0, I 0, .slice none 0 0]) (i := 4) (vs := [N64 x.ep, Str x.par, I x.dep, I x.aud, .slice A x.nodes.length c]) rfl rfl rfl rfl rfl Tryd.sizeOf57 rfl rfl) rfl rfl rfl (fun _ _ => ?_)
          change J _ _ _ [F, blk g3 [N64 ep, Str p, I d, I a, Str ns] 55, blk g4 [N64 ep2, Str p2, I d2, I a2, Str ns2] 55, mA, blk g7 [N64 x.ep, Str x.par, I x.dep, I x.aud, .slice A x.nodes.length c] 57, blk g8 _ 57, mB] _
          refine J.ds rfl (op_storeAll (l := [N64 0, Str [], I 0, I 0, .slice none 0 0]) (i := 5) (vs := [N64 z.ep, Str z.par, I z.dep, I z.aud, .slice B z.nodes.length e]) rfl rfl rfl rfl rfl Tryd.sizeOf57 rfl rfl) rfl rfl rfl (fun _ _ => ?_)
          change J _ _ _ [F, blk g3 [N64 ep, Str p, I d, I a, Str ns] 55, blk g4 [N64 ep2, Str p2, I d2, I a2, Str ns2] 55, mA, blk g7 [N64 x.ep, Str x.par, I x.dep, I x.aud, .slice A x.nodes.length c] 57, blk g8 [N64 z.ep, Str z.par, I z.dep, I z.aud, .slice B z.nodes.length e] 57, mB] _
          refine J.perm [0, 1, 2, 3, 6, 4, 5] [F, blk g3 [N64 ep, Str p, I d, I a, Str ns] 55, blk g4 [N64 ep2, Str p2, I d2, I a2, Str ns2] 55, mA, mB, blk g7 [N64 x.ep, Str x.par, I x.dep, I x.aud, .slice A x.nodes.length c] 57, blk g8 [N64 z.ep, Str z.par, I z.dep, I z.aud, .slice B z.nodes.length e] 57] rfl (by decide) ?_
          refine J.dnil ?_
          refine J.then_n ?_
          exact J.kk (A, c, mA, B, e, mB, g7, g8) hK4 ⟨hsl, hsz⟩ ⟨rfl, rfl, rfl, trivial⟩ (fun _ h => h)
      ·
        refine J.de rfl (op_alloc rfl Tryd.zeroValue57 rfl) rfl rfl rfl (by simp) ?_
        intro g8 _
        change J _ _ _ [F, blk g3 [N64 ep, Str p, I d, I a, Str ns] 55, blk g4 [N64 ep2, Str p2, I d2, I a2, Str ns2] 55, mA, blk g8 _ 57] _
        refine J.dbr ?_ ?_
        ·
          refine J.de rfl (op_call rfl rfl ent28 (Ct.use (new := fun y : Option Addr × Nat × Hp => [y.2.2]) (fun F' _ => told_ct2 F' ep2 hep2 p2 d2 a2 ns2 z hz))) rfl rfl rfl (by simp) ?_
          rintro ⟨B, e, mB⟩ hsz
          try dsimp only at hsz
          change J _ _ _ [F, blk g3 [N64 ep, Str p, I d, I a, Str ns] 55, blk g4 [N64 ep2, Str p2, I d2, I a2, Str ns2] 55, mA, blk g8 _ 57, mB] _
          refine J.de rfl (op_alloc rfl Tryd.zeroValue57 rfl) rfl rfl rfl (by simp) ?_
          intro g7 _
          change J _ _ _ [F, blk g3 [N64 ep, Str p, I d, I a, Str ns] 55, blk g4 [N64 ep2, Str p2, I d2, I a2, Str ns2] 55, mA, blk g8 _ 57, mB, blk g7 _ 57] _
          refine J.ds rfl (op_storeAll (l := [N64 0, Str [], I 0, I 0, .slice none 0 0]) (i := 6) (vs := [N64 x.ep, Str x.par, I x.dep, I x.aud, .slice A x.nodes.length c]) rfl rfl rfl rfl rfl Tryd.sizeOf57 rfl rfl) rfl rfl rfl (fun _ _ => ?_)
          change J _ _ _ [F, blk g3 [N64 ep, Str p, I d, I a, Str ns] 55, blk g4 [N64 ep2, Str p2, I d2, I a2, Str ns2] 55, mA, blk g8 _ 57, mB, blk g7 [N64 x.ep, Str x.par, I x.dep, I x.aud, .slice A x.nodes.length c] 57] _
          refine J.ds rfl (op_storeAll (l := [N64 0, Str [], I 0, I 0, .slice none 0 0]) (i := 4) (vs := [N64 z.ep, Str z.par, I z.dep, I z.aud, .slice B z.nodes.length e]) rfl rfl rfl rfl rfl Tryd.sizeOf57 rfl rfl) rfl rfl rfl (fun _ _ => ?_)
          change J _ _ _ [F, blk g3 [N64 ep, Str p, I d, I a, Str ns] 55, blk g4 [N64 ep2, Str p2, I d2, I a2, Str ns2] 55, mA, blk g8 [N64 z.ep, Str z.par, I z.dep, I z.aud, .slice B z.nodes.length e] 57, mB, blk g7 [N64 x.ep, Str x.par, I x.dep, I x.aud, .slice A x.nodes.length c] 57] _
          refine J.perm [0, 1, 2, 3, 5, 6, 4] [F, blk g3 [N64 ep, Str p, I d, I a, Str ns] 55, blk g4 [N64 ep2, Str p2, I d2, I a2, Str ns2] 55, mA, mB, blk g7 [N64 x.ep, Str x.par, I x.dep, I x.aud, .slice A x.nodes.length c] 57, blk g8 [N64 z.ep, Str z.par, I z.dep, I z.aud, .slice B z.nodes.length e] 57] rfl (by decide) ?_
          refine J.dnil ?_
          refine J.then_n ?_
          exact J.kk (A, c, mA, B, e, mB, g7, g8) hK4 ⟨hsl, hsz⟩ ⟨rfl, rfl, rfl, trivial⟩ (fun _ h => h)
        ·
          refine J.de rfl (op_alloc rfl Tryd.zeroValue57 rfl) rfl rfl rfl (by simp) ?_
          intro g7 _
          change J _ _ _ [F, blk g3 [N64 ep, Str p, I d, I a, Str ns] 55, blk g4 [N64 ep2, Str p2, I d2, I a2, Str ns2] 55, mA, blk g8 _ 57, blk g7 _ 57] _
          refine J.de rfl (op_call rfl rfl ent28 (Ct.use (new := fun y : Option Addr × Nat × Hp => [y.2.2]) (fun F' _ => told_ct2 F' ep2 hep2 p2 d2 a2 ns2 z hz))) rfl rfl rfl (by simp) ?_
          rintro ⟨B, e, mB⟩ hsz
          try dsimp only at hsz
          change J _ _ _ [F, blk g3 [N64 ep, Str p, I d, I a, Str ns] 55, blk g4 [N64 ep2, Str p2, I d2, I a2, Str ns2] 55, mA, blk g8 _ 57, blk g7 _ 57, mB] _
          refine J.ds rfl (op_storeAll (l := [N64 0, Str [], I 0, I 0, .slice none 0 0]) (i := 5) (vs := [N64 x.ep, Str x.par, I x.dep, I x.aud, .slice A x.nodes.length c]) rfl rfl rfl rfl rfl Tryd.sizeOf57 rfl rfl) rfl rfl rfl (fun _ _ => ?_)
          change J _ _ _ [F, blk g3 [N64 ep, Str p, I d, I a, Str ns] 55, blk g4 [N64 ep2, Str p2, I d2, I a2, Str ns2] 55, mA, blk g8 _ 57, blk g7 [N64 x.ep, Str x.par, I x.dep, I x.aud, .slice A x.nodes.length c] 57, mB] _
          refine J.ds rfl (op_storeAll (l := [N64 0, Str [], I 0, I 0, .slice none 0 0]) (i := 4) (vs := [N64 z.ep, Str z.par, I z.dep, I z.aud, .slice B z.nodes.length e]) rfl rfl rfl rfl rfl Tryd.sizeOf57 rfl rfl) rfl rfl rfl (fun _ _ => ?_)
          change J _ _ _ [F, blk g3 [N64 ep, Str p, I d, I a, Str ns] 55, blk g4 [N64 ep2, Str p2, I d2, I a2, Str ns2] 55, mA, blk g8 [N64 z.ep, Str z.par, I z.dep, I z.aud, .slice B z.nodes.length e] 57, blk g7 [N64 x.ep, Str x.par, I x.dep, I x.aud, .slice A x.nodes.length c] 57, mB] _
          refine J.perm [0, 1, 2, 3, 6, 5, 4] [F, blk g3 [N64 ep, Str p, I d, I a, Str ns] 55, blk g4 [N64 ep2, Str p2, I d2, I a2, Str ns2] 55, mA, mB, blk g7 [N64 x.ep, Str x.par, I x.dep, I x.aud, .slice A x.nodes.length c] 57, blk g8 [N64 z.ep, Str z.par, I z.dep, I z.aud, .slice B z.nodes.length e] 57] rfl (by decide) ?_
          refine J.dnil ?_
          refine J.then_n ?_
          exact J.kk (A, c, mA, B, e, mB, g7, g8) hK4 ⟨hsl, hsz⟩ ⟨rfl, rfl, rfl, trivial⟩ (fun _ h => h)
    refine J.dbr ?_ ?_
    ·
      refine J.de rfl (op_alloc rfl Tryd.zeroValue57 rfl) rfl rfl rfl (by simp) ?_
      intro g7 _
      change J _ _ _ [F, blk g3 [N64 ep, Str p, I d, I a, Str ns] 55, blk g4 [N64 ep2, Str p2, I d2, I a2, Str ns2] 55, blk g7 _ 57] _
      refine J.dbr ?_ ?_
      ·
        refine J.de rfl (op_call rfl rfl ent28 (Ct.use (new := fun y : Option Addr × Nat × Hp => [y.2.2]) (fun F' _ => told_ct2 F' ep hep p d a ns x hx))) rfl rfl rfl (by simp) ?_
        rintro ⟨A, c, mA⟩ hsl
        try dsimp only at hsl
        change J _ _ _ [F, blk g3 [N64 ep, Str p, I d, I a, Str ns] 55, blk g4 [N64 ep2, Str p2, I d2, I a2, Str ns2] 55, blk g7 _ 57, mA] _
        refine J.dbr ?_ ?_
        ·
          refine J.de rfl (op_call rfl rfl ent28 (Ct.use (new := fun y : Option Addr × Nat × Hp => [y.2.2]) (fun F' _ => told_ct2 F' ep2 hep2 p2 d2 a2 ns2 z hz))) rfl rfl rfl (by simp) ?_
          rintro ⟨B, e, mB⟩ hsz
          try dsimp only at hsz
          change J _ _ _ [F, blk g3 [N64 ep, Str p, I d, I a, Str ns] 55, blk g4 [N64 ep2, Str p2, I d2, I a2, Str ns2] 55, blk g7 _ 57, mA, mB] _
          refine J.de rfl (op_alloc rfl Tryd.zeroValue57 rfl) rfl rfl rfl (by simp) ?_
          intro g8 _
          change J _ _ _ [F, blk g3 [N64 ep, Str p, I d, I a, Str ns] 55, blk g4 [N64 ep2, Str p2, I d2, I a2, Str ns2] 55, blk g7 _ 57, mA, mB, blk g8 _ 57] _
          refine J.ds rfl (op_storeAll (l := [N64 0, Str [], I 0, I 0, .slice none 0 0]) (i := 3) (vs := [N64 x.ep, Str x.par, I x.dep, I x.aud, .slice A x.nodes.length c]) rfl rfl rfl rfl rfl Tryd.sizeOf57 rfl rfl) rfl rfl rfl (fun _ _ => ?_)
          change J _ _ _ [F, blk g3 [N64 ep, Str p, I d, I a, Str ns] 55, blk g4 [N64 ep2, Str p2, I d2, I a2, Str ns2] 55, blk g7 [N64 x.ep, Str x.par, I x.dep, I x.aud, .slice A x.nodes.length c] 57, mA, mB, blk g8 _ 57] _
          refine J.ds rfl (op_storeAll (l := [N64 0, Str [], I 0, I 0, .slice none 0 0]) (i := 6) (vs := [N64 z.ep, Str z.par, I z.dep, I z.aud, .slice B z.nodes.length e]) rfl rfl rfl rfl rfl Tryd.sizeOf57 rfl rfl) rfl rfl rfl (fun _ _ => ?_)
          change J _ _ _ [F, blk g3 [N64 ep, Str p, I d, I a, Str ns] 55, blk g4 [N64 ep2, Str p2, I d2, I a2, Str ns2] 55, blk g7 [N64 x.ep, Str x.par, I x.dep, I x.aud, .slice A x.nodes.length c] 57, mA, mB, blk g8 [N64 z.ep, Str z.par, I z.dep, I z.aud, .slice B z.nodes.length e] 57] _
          refine J.perm [0, 1, 2, 4, 5, 3, 6] [F, blk g3 [N64 ep, Str p, I d, I a, Str ns] 55, blk g4 [N64 ep2, Str p2, I d2, I a2, Str ns2] 55, mA, mB, blk g7 [N64 x.ep, Str x.par, I x.dep, I x.aud, .slice A x.nodes.length c] 57, blk g8 [N64 z.ep, Str z.par, I z.dep, I z.aud, .slice B z.nodes.length e] 57] rfl (by decide) ?_
          refine J.dnil ?_
          refine J.then_n ?_
          exact J.kk (A, c, mA, B, e, mB, g7, g8) hK4 ⟨hsl, hsz⟩ ⟨rfl, rfl, rfl, trivial⟩ (fun _ h => h)
        ·
          refine J.de rfl (op_alloc rfl Tryd.zeroValue57 rfl) rfl rfl rfl (by simp) ?_
          intro g8 _
          change J _ _ _ [F, blk g3 [N64 ep, Str p, I d, I a, Str ns] 55, blk g4 [N64 ep2, Str p2, I d2, I a2, Str ns2] 55, blk g7 _ 57, mA, blk g8 _ 57] _
          refine J.de rfl (op_call rfl rfl ent28 (Ct.use (new := fun y : Option Addr × Nat × Hp => [y.2.2]) (fun F' _ => told_ct2 F' ep2 hep2 p2 d2 a2 ns2 z hz))) rfl rfl rfl (by simp) ?_
          rintro ⟨B, e, mB⟩ hsz
          try dsimp only at hsz
          change J _ _ _ [F, blk g3 [N64 ep, Str p, I d, I a, Str ns] 55, blk g4 [N64 ep2, Str p2, I d2, I a2, Str ns2] 55, blk g7 _ 57, mA, blk g8 _ 57, mB] _
          refine J.ds rfl (op_storeAll (l := [N64 0, Str [], I 0, I 0, .slice none 0 0]) (i := 3) (vs := [N64 x.ep, Str x.par, I x.dep, I x.aud, .slice A x.nodes.length c]) rfl rfl rfl rfl rfl Tryd.sizeOf57 rfl rfl) rfl rfl rfl (fun _ _ => ?_)
          change J _ _ _ [F, blk g3 [N64 ep, Str p, I d, I a, Str ns] 55, blk g4 [N64 ep2, Str p2, I d2, I a2, Str ns2] 55, blk g7 [N64 x.ep, Str x.par, I x.dep, I x.aud, .slice A x.nodes.length c] 57, mA, blk g8 _ 57, mB] _
          refine J.ds rfl (op_storeAll (l := [N64 0, Str [], I 0, I 0, .slice none 0 0]) (i := 5) (vs := [N64 z.ep, Str z.par, I z.dep, I z.aud, .slice B z.nodes.length e]) rfl rfl rfl rfl rfl Tryd.sizeOf57 rfl rfl) rfl rfl rfl (fun _ _ => ?_)
          change J _ _ _ [F, blk g3 [N64 ep, Str p, I d, I a, Str ns] 55, blk g4 [N64 ep2, Str p2, I d2, I a2, Str ns2] 55, blk g7 [N64 x.ep, Str x.par, I x.dep, I x.aud, .slice A x.nodes.length c] 57, mA, blk g8 [N64 z.ep, Str z.par, I z.dep, I z.aud, .slice B z.nodes.length e] 57, mB] _
          refine J.perm [0, 1, 2, 4, 6, 3, 5] [F, blk g3 [N64 ep, Str p, I d, I a, Str ns] 55, blk g4 [N64 ep2, Str p2, I d2, I a2, Str ns2] 55, mA, mB, blk g7 [N64 x.ep, Str x.par, I x.dep, I x.aud, .slice A x.nodes.length c] 57, blk g8 [N64 z.ep, Str z.par, I z.dep, I z.aud, .slice B z.nodes.length e] 57] rfl (by decide) ?_
          refine J.dnil ?_
          refine J.then_n ?_
          exact J.kk (A, c, mA, B, e, mB, g7, g8) hK4 ⟨hsl, hsz⟩ ⟨rfl, rfl, rfl, trivial⟩ (fun _ h => h)
      ·
        refine J.de rfl (op_alloc rfl Tryd.zeroValue57 rfl) rfl rfl rfl (by simp) ?_
        intro g8 _
        change J _ _ _ [F, blk g3 [N64 ep, Str p, I d, I a, Str ns] 55, blk g4 [N64 ep2, Str p2, I d2, I a2, Str ns2] 55, blk g7 _ 57, blk g8 _ 57] _
        refine J.de rfl (op_call rfl rfl ent28 (Ct.use (new := fun y : Option Addr × Nat × Hp => [y.2.2]) (fun F' _ => told_ct2 F' ep hep p d a ns x hx))) rfl rfl rfl (by simp) ?_
        rintro ⟨A, c, mA⟩ hsl
        try dsimp only at hsl
        change J _ _ _ [F, blk g3 [N64 ep, Str p, I d, I a, Str ns] 55, blk g4 [N64 ep2, Str p2, I d2, I a2, Str ns2] 55, blk g7 _ 57, blk g8 _ 57, mA] _
        refine J.de rfl (op_call rfl rfl ent28 (Ct.use (new := fun y : Option Addr × Nat × Hp => [y.2.2]) (fun F' _ => told_ct2 F' ep2 hep2 p2 d2 a2 ns2 z hz))) rfl rfl rfl (by simp) ?_
        rintro ⟨B, e, mB⟩ hsz
        try dsimp only at hsz
        change J _ _ _ [F, blk g3 [N64 ep, Str p, I d, I a, Str ns] 55, blk g4 [N64 ep2, Str p2, I d2, I a2, Str ns2] 55, blk g7 _ 57, blk g8 _ 57, mA, mB] _
        refine J.ds rfl (op_storeAll (l := [N64 0, Str [], I 0, I 0, .slice none 0 0]) (i := 3) (vs := [N64 x.ep, Str x.par, I x.dep, I x.aud, .slice A x.nodes.length c]) rfl rfl rfl rfl rfl Tryd.sizeOf57 rfl rfl) rfl rfl rfl (fun _ _ => ?_)
        change J _ _ _ [F, blk g3 [N64 ep, Str p, I d, I a, Str ns] 55, blk g4 [N64 ep2, Str p2, I d2, I a2, Str ns2] 55, blk g7 [N64 x.ep, Str x.par, I x.dep, I x.aud, .slice A x.nodes.length c] 57, blk g8 _ 57, mA, mB] _
        refine J.ds rfl (op_storeAll (l := [N64 0, Str [], I 0, I 0, .slice none 0 0]) (i := 4) (vs := [N64 z.ep, Str z.par, I z.dep, I z.aud, .slice B z.nodes.length e]) rfl rfl rfl rfl rfl Tryd.sizeOf57 rfl rfl) rfl rfl rfl (fun _ _ => ?_)
        change J _ _ _ [F, blk g3 [N64 ep, Str p, I d, I a, Str ns] 55, blk g4 [N64 ep2, Str p2, I d2, I a2, Str ns2] 55, blk g7 [N64 x.ep, Str x.par, I x.dep, I x.aud, .slice A x.nodes.length c] 57, blk g8 [N64 z.ep, Str z.par, I z.dep, I z.aud, .slice B z.nodes.length e] 57, mA, mB] _
        refine J.perm [0, 1, 2, 5, 6, 3, 4] [F, blk g3 [N64 ep, Str p, I d, I a, Str ns] 55, blk g4 [N64 ep2, Str p2, I d2, I a2, Str ns2] 55, mA, mB, blk g7 [N64 x.ep, Str x.par, I x.dep, I x.aud, .slice A x.nodes.length c] 57, blk g8 [N64 z.ep, Str z.par, I z.dep, I z.aud, .slice B z.nodes.length e] 57] rfl (by decide) ?_
        refine J.dnil ?_
        refine J.then_n ?_
        exact J.kk (A, c, mA, B, e, mB, g7, g8) hK4 ⟨hsl, hsz⟩ ⟨rfl, rfl, rfl, trivial⟩ (fun _ h => h)
    ·
      refine J.de rfl (op_alloc rfl Tryd.zeroValue57 rfl) rfl rfl rfl (by simp) ?_
      intro g8 _
      change J _ _ _ [F, blk g3 [N64 ep, Str p, I d, I a, Str ns] 55, blk g4 [N64 ep2, Str p2, I d2, I a2, Str ns2] 55, blk g8 _ 57] _
      refine J.dbr ?_ ?_
      ·
        refine J.de rfl (op_call rfl rfl ent28 (Ct.use (new := fun y : Option Addr × Nat × Hp => [y.2.2]) (fun F' _ => told_ct2 F' ep hep p d a ns x hx))) rfl rfl rfl (by simp) ?_
        rintro ⟨A, c, mA⟩ hsl
        try dsimp only at hsl
        change J _ _ _ [F, blk g3 [N64 ep, Str p, I d, I a, Str ns] 55, blk g4 [N64 ep2, Str p2, I d2, I a2, Str ns2] 55, blk g8 _ 57, mA] _
        refine J.dbr ?_ ?_
        ·
          refine J.de rfl (op_call rfl rfl ent28 (Ct.use (new := fun y : Option Addr × Nat × Hp => [y.2.2]) (fun F' _ => told_ct2 F' ep2 hep2 p2 d2 a2 ns2 z hz))) rfl rfl rfl (by simp) ?_
          rintro ⟨B, e, mB⟩ hsz
          try dsimp only at hsz
          change J _ _ _ [F, blk g3 [N64 ep, Str p, I d, I a, Str ns] 55, blk g4 [N64 ep2, Str p2, I d2, I a2, Str ns2] 55, blk g8 _ 57, mA, mB] _
          refine J.de rfl (op_alloc rfl Tryd.zeroValue57 rfl) rfl rfl rfl (by simp) ?_
          intro g7 _
          change J _ _ _ [F, blk g3 [N64 ep, Str p, I d, I a, Str ns] 55, blk g4 [N64 ep2, Str p2, I d2, I a2, Str ns2] 55, blk g8 _ 57, mA, mB, blk g7 _ 57] _
          refine J.ds rfl (op_storeAll (l := [N64 0, Str [], I 0, I 0, .slice none 0 0]) (i := 6) (vs := [N64 x.ep, Str x.par, I x.dep, I x.aud, .slice A x.nodes.length c]) rfl rfl rfl rfl rfl Tryd.sizeOf57 rfl rfl) rfl rfl rfl (fun _ _ => ?_)
          change J _ _ _ [F, blk g3 [N64 ep, Str p, I d, I a, Str ns] 55, blk g4 [N64 ep2, Str p2, I d2, I a2, Str ns2] 55, blk g8 _ 57, mA, mB, blk g7 [N64 x.ep, Str x.par, I x.dep, I x.aud, .slice A x.nodes.length c] 57] _
          refine J.ds rfl (op_storeAll (l := [N64 0, Str [], I 0, I 0, .slice none 0 0]) (i := 3) (vs := [N64 z.ep, Str z.par, I z.dep, I z.aud, .slice B z.nodes.length e]) rfl rfl rfl rfl rfl Tryd.sizeOf57 rfl rfl) rfl rfl rfl (fun _ _ => ?_)
          change J _ _ _ [F, blk g3 [N64 ep, Str p, I d, I a, Str ns] 55, blk g4 [N64 ep2, Str p2, I d2, I a2, Str ns2] 55, blk g8 [N64 z.ep, Str z.par, I z.dep, I z.aud, .slice B z.nodes.length e] 57, mA, mB, blk g7 [N64 x.ep, Str x.par, I x.dep, I x.aud, .slice A x.nodes.length c] 57] _
          refine J.perm [0, 1, 2, 4, 5, 6, 3] [F, blk g3 [N64 ep, Str p, I d, I a, Str ns] 55, blk g4 [N64 ep2, Str p2, I d2, I a2, Str ns2] 55, mA, mB, blk g7 [N64 x.ep, Str x.par, I x.dep, I x.aud, .slice A x.nodes.length c] 57, blk g8 [N64 z.ep, Str z.par, I z.dep, I z.aud, .slice B z.nodes.length e] 57] rfl (by decide) ?_
          refine J.dnil ?_
          refine J.then_n ?_
          exact J.kk (A, c, mA, B, e, mB, g7, g8) hK4 ⟨hsl, hsz⟩ ⟨rfl, rfl, rfl, trivial⟩ (fun _ h => h)
        ·
          refine J.de rfl (op_alloc rfl Tryd.zeroValue57 rfl) rfl rfl rfl (by simp) ?_
          intro g7 _
          change J _ _ _ [F, blk g3 [N64 ep, Str p, I d, I a, Str ns] 55, blk g4 [N64 ep2, Str p2, I d2, I a2, Str ns2] 55, blk g8 _ 57, mA, blk g7 _ 57] _
          refine J.de rfl (op_call rfl rfl ent28 (Ct.use (new := fun y : Option Addr × Nat × Hp => [y.2.2]) (fun F' _ => told_ct2 F' ep2 hep2 p2 d2 a2 ns2 z hz))) rfl rfl rfl (by simp) ?_
          rintro ⟨B, e, mB⟩ hsz
          try dsimp only at hsz
          change J _ _ _ [F, blk g3 [N64 ep, Str p, I d, I a, Str ns] 55, blk g4 [N64 ep2, Str p2, I d2, I a2, Str ns2] 55, blk g8 _ 57, mA, blk g7 _ 57, mB] _
          refine J.ds rfl (op_storeAll (l := [N64 0, Str [], I 0, I 0, .slice none 0 0]) (i := 5) (vs := [N64 x.ep, Str x.par, I x.dep, I x.aud, .slice A x.nodes.length c]) rfl rfl rfl rfl rfl Tryd.sizeOf57 rfl rfl) rfl rfl rfl (fun _ _ => ?_)
          change J _ _ _ [F, blk g3 [N64 ep, Str p, I d, I a, Str ns] 55, blk g4 [N64 ep2, Str p2, I d2, I a2, Str ns2] 55, blk g8 _ 57, mA, blk g7 [N64 x.ep, Str x.par, I x.dep, I x.aud, .slice A x.nodes.length c] 57, mB] _
          refine J.ds rfl (op_storeAll (l := [N64 0, Str [], I 0, I 0, .slice none 0 0]) (i := 3) (vs := [N64 z.ep, Str z.par, I z.dep, I z.aud, .slice B z.nodes.length e]) rfl rfl rfl rfl rfl Tryd.sizeOf57 rfl rfl) rfl rfl rfl (fun _ _ => ?_)
          change J _ _ _ [F, blk g3 [N64 ep, Str p, I d, I a, Str ns] 55, blk g4 [N64 ep2, Str p2, I d2, I a2, Str ns2] 55, blk g8 [N64 z.ep, Str z.par, I z.dep, I z.aud, .slice B z.nodes.length e] 57, mA, blk g7 [N64 x.ep, Str x.par, I x.dep, I x.aud, .slice A x.nodes.length c] 57, mB] _
          refine J.perm [0, 1, 2, 4, 6, 5, 3] [F, blk g3 [N64 ep, Str p, I d, I a, Str ns] 55, blk g4 [N64 ep2, Str p2, I d2, I a2, Str ns2] 55, mA, mB, blk g7 [N64 x.ep, Str x.par, I x.dep, I x.aud, .slice A x.nodes.length c] 57, blk g8 [N64 z.ep, Str z.par, I z.dep, I z.aud, .slice B z.nodes.length e] 57] rfl (by decide) ?_
          refine J.dnil ?_
          refine J.then_n ?_
          exact J.kk (A, c, mA, B, e, mB, g7, g8) hK4 ⟨hsl, hsz⟩ ⟨rfl, rfl, rfl, trivial⟩ (fun _ h => h)
      ·
        refine J.de rfl (op_alloc rfl Tryd.zeroValue57 rfl) rfl rfl rfl (by simp) ?_
        intro g7 _
        change J _ _ _ [F, blk g3 [N64 ep, Str p, I d, I a, Str ns] 55, blk g4 [N64 ep2, Str p2, I d2, I a2, Str ns2] 55, blk g8 _ 57, blk g7 _ 57] _
        refine J.de rfl (op_call rfl rfl ent28 (Ct.use (new := fun y : Option Addr × Nat × Hp => [y.2.2]) (fun F' _ => told_ct2 F' ep hep p d a ns x hx))) rfl rfl rfl (by simp) ?_
        rintro ⟨A, c, mA⟩ hsl
        try dsimp only at hsl
        change J _ _ _ [F, blk g3 [N64 ep, Str p, I d, I a, Str ns] 55, blk g4 [N64 ep2, Str p2, I d2, I a2, Str ns2] 55, blk g8 _ 57, blk g7 _ 57, mA] _
        refine J.de rfl (op_call rfl rfl ent28 (Ct.use (new := fun y : Option Addr × Nat × Hp => [y.2.2]) (fun F' _ => told_ct2 F' ep2 hep2 p2 d2 a2 ns2 z hz))) rfl rfl rfl (by simp) ?_
        rintro ⟨B, e, mB⟩ hsz
        try dsimp only at hsz
        change J _ _ _ [F, blk g3 [N64 ep, Str p, I d, I a, Str ns] 55, blk g4 [N64 ep2, Str p2, I d2, I a2, Str ns2] 55, blk g8 _ 57, blk g7 _ 57, mA, mB] _
        refine J.ds rfl (op_storeAll (l := [N64 0, Str [], I 0, I 0, .slice none 0 0]) (i := 4) (vs := [N64 x.ep, Str x.par, I x.dep, I x.aud, .slice A x.nodes.length c]) rfl rfl rfl rfl rfl Tryd.sizeOf57 rfl rfl) rfl rfl rfl (fun _ _ => ?_)
        change J _ _ _ [F, blk g3 [N64 ep, Str p, I d, I a, Str ns] 55, blk g4 [N64 ep2, Str p2, I d2, I a2, Str ns2] 55, blk g8 _ 57, blk g7 [N64 x.ep, Str x.par, I x.dep, I x.aud, .slice A x.nodes.length c] 57, mA, mB] _
        refine J.ds rfl (op_storeAll (l := [N64 0, Str [], I 0, I 0, .slice none 0 0]) (i := 3) (vs := [N64 z.ep, Str z.par, I z.dep, I z.aud, .slice B z.nodes.length e]) rfl rfl rfl rfl rfl Tryd.sizeOf57 rfl rfl) rfl rfl rfl (fun _ _ => ?_)
        change J _ _ _ [F, blk g3 [N64 ep, Str p, I d, I a, Str ns] 55, blk g4 [N64 ep2, Str p2, I d2, I a2, Str ns2] 55, blk g8 [N64 z.ep, Str z.par, I z.dep, I z.aud, .slice B z.nodes.length e] 57, blk g7 [N64 x.ep, Str x.par, I x.dep, I x.aud, .slice A x.nodes.length c] 57, mA, mB] _
        refine J.perm [0, 1, 2, 5, 6, 4, 3] [F, blk g3 [N64 ep, Str p, I d, I a, Str ns] 55, blk g4 [N64 ep2, Str p2, I d2, I a2, Str ns2] 55, mA, mB, blk g7 [N64 x.ep, Str x.par, I x.dep, I x.aud, .slice A x.nodes.length c] 57, blk g8 [N64 z.ep, Str z.par, I z.dep, I z.aud, .slice B z.nodes.length e] 57] rfl (by decide) ?_
        refine J.dnil ?_
        refine J.then_n ?_
        exact J.kk (A, c, mA, B, e, mB, g7, g8) hK4 ⟨hsl, hsz⟩ ⟨rfl, rfl, rfl, trivial⟩ (fun _ h => h)
  rintro ⟨A, c, mA, B, e, mB, g7, g8⟩ ⟨hsl, hsz⟩
  dsimp only at hsl hsz ⊢
  refine J.seq (fun K5 hK5 => ?_)
  refine J.region ?_
  refine J.y (op_loadBA 5 rfl rfl rfl Tryd.isAgg57 Tryd.sizeOf57 rfl) rfl rfl rfl ?_
  refine J.e (op_call rfl rfl ent30 (Ct.use0 (fun F' hF => plain_ct F' x A c))) rfl rfl rfl ?_
  intro g20 _
  refine J.e (op_call rfl rfl ent29 (Ct.use0 (fun F' hF => digest19_ct F' x A c hg (hsl.mono (hF mA (by simp)))))) rfl rfl rfl ?_
  intro g21 _
  refine J.y (op_assign rfl rfl) rfl rfl rfl ?_
  refine J.nil ?_
  refine J.then_n (J.k hK5 ?_)
  refine J.keepE [(2, _), (7, _), (8, _), (9, _)] ⟨rfl, rfl, rfl, rfl, trivial⟩ ?_
  refine J.cut (fun t : Hd × Option Addr × Nat => [(2, B8 how), (7, Ptr g7), (8, Ptr g8), (9, Str x.dig)]) (fun t => [F, blk g3 [N64 ep, Str p, I d, I a, Str ns] 55, blk g4 [N64 ep2, Str p2, I d2, I a2, Str ns2] 55, mA, mB, blk g7 [N64 x.ep, Str x.par, I x.dep, I x.aud, .slice A x.nodes.length c] 57, blk g8 [N64 t.1.ep, Str t.1.par, I t.1.dep, I t.1.aud, .slice t.2.1 t.1.nodes.length t.2.2] 57]) (fun t => t.1.good ∧ (∀ G, Le mA G → Le mB G → Sl G 1 t.2.1 t.1.nodes.length t.2.2 (strsV t.1.nodes))) (fun K6 hK6 => ?_) ?_
  ·
    refine J.seq (fun K7 hK7 => ?_)
    refine J.region ?_
    refine J.y (op_move rfl rfl) rfl rfl rfl ?_
    refine J.y (op_and8 (b := 1) rfl rfl rfl) rfl rfl rfl ?_
    refine J.y (op_eql rfl rfl rfl) rfl rfl rfl ?_
    refine J.nil ?_
    refine J.then_n (J.k hK7 ?_)
    refine J.keepE [(2, _), (7, _), (8, _), (9, _), (24, _)] ⟨rfl, rfl, rfl, rfl, rfl, trivial⟩ ?_
    refine J.ite rfl (fun h24 => ?_) (fun h24 => ?_)
    ·
      refine J.region ?_
      refine J.y (op_move rfl rfl) rfl rfl rfl ?_
      refine J.y (op_fieldAddr (j := 1) rfl rfl Tryd.underlying57 rfl Tryd.sizeOf9 rfl) rfl rfl rfl ?_
      refine J.s (op_store (i := 6) (vs := [Str x.dig]) rfl rfl rfl rfl rfl Tryd.sizeOf9 rfl (by simp)) rfl rfl (fun _ _ => ?_)
      change J _ _ _ [F, blk g3 [N64 ep, Str p, I d, I a, Str ns] 55, blk g4 [N64 ep2, Str p2, I d2, I a2, Str ns2] 55, mA, mB, blk g7 [N64 x.ep, Str x.par, I x.dep, I x.aud, .slice A x.nodes.length c] 57, blk g8 [N64 z.ep, Str x.dig, I z.dep, I z.aud, .slice B z.nodes.length e] 57] _
      refine J.nil ?_
      refine J.then_n ?_
      exact J.kk ({ z with par := x.dig }, B, e) hK6 ⟨⟨hgz.1, by show x.dig.length ≤ _; omega, hgz.2.2⟩, fun G _ h2 => hsz.mono h2⟩ ⟨rfl, rfl, rfl, rfl, trivial⟩ (fun _ h => h)
    ·
      refine J.skip ?_
      refine J.then_n ?_
      exact J.kk (z, B, e) hK6 ⟨hgz, fun G _ h2 => hsz.mono h2⟩ ⟨rfl, rfl, rfl, rfl, trivial⟩ (fun _ h => h)
  rintro ⟨y, B, e⟩ ⟨hgy, hsy⟩
  dsimp only at hgy hsy ⊢
  obtain ⟨hy1, hy2, hy3⟩ := id hgy
  refine J.cut (fun t : Hd × Option Addr × Nat => [(2, B8 how), (7, Ptr g7), (8, Ptr g8), (9, Str x.dig)]) (fun t => [F, blk g3 [N64 ep, Str p, I d, I a, Str ns] 55, blk g4 [N64 ep2, Str p2, I d2, I a2, Str ns2] 55, mA, mB, blk g7 [N64 x.ep, Str x.par, I x.dep, I x.aud, .slice A x.nodes.length c] 57, blk g8 [N64 t.1.ep, Str t.1.par, I t.1.dep, I t.1.aud, .slice t.2.1 t.1.nodes.length t.2.2] 57]) (fun t => t.1.good ∧ (∀ G, Le mA G → Le mB G → Sl G 1 t.2.1 t.1.nodes.length t.2.2 (strsV t.1.nodes))) (fun K8 hK8 => ?_) ?_
  ·
    refine J.seq (fun K9 hK9 => ?_)
    refine J.region ?_
    refine J.y (op_move rfl rfl) rfl rfl rfl ?_
    refine J.y (op_and8 (b := 2) rfl rfl rfl) rfl rfl rfl ?_
    refine J.y (op_eql rfl rfl rfl) rfl rfl rfl ?_
    refine J.nil ?_
    refine J.then_n (J.k hK9 ?_)
    refine J.keepE [(2, _), (7, _), (8, _), (9, _), (29, _)] ⟨rfl, rfl, rfl, rfl, rfl, trivial⟩ ?_
    refine J.ite rfl (fun h29 => ?_) (fun h29 => ?_)
    ·
      refine J.region ?_
      refine J.y (op_fieldAddr (j := 0) rfl rfl Tryd.underlying57 rfl Tryd.sizeOf47 rfl) rfl rfl rfl ?_
      refine J.y (op_loadB 5 rfl rfl rfl Tryd.isAgg47 rfl) rfl rfl rfl ?_
      refine J.y (op_addW (a := x.ep) (b := 1) rfl rfl rfl hg.1 (by decide)) rfl rfl rfl ?_
      refine J.y (op_fieldAddr (j := 0) rfl rfl Tryd.underlying57 rfl Tryd.sizeOf47 rfl) rfl rfl rfl ?_
      refine J.s (op_store (i := 6) (vs := [N64 ((x.ep + 1) % 18446744073709551616)]) rfl rfl rfl rfl rfl Tryd.sizeOf47 rfl (by simp)) rfl rfl (fun _ _ => ?_)
      change J _ _ _ [F, blk g3 [N64 ep, Str p, I d, I a, Str ns] 55, blk g4 [N64 ep2, Str p2, I d2, I a2, Str ns2] 55, mA, mB, blk g7 [N64 x.ep, Str x.par, I x.dep, I x.aud, .slice A x.nodes.length c] 57, blk g8 [N64 ((x.ep + 1) % 18446744073709551616), Str y.par, I y.dep, I y.aud, .slice B y.nodes.length e] 57] _
      refine J.nil ?_
      refine J.then_n ?_
      exact J.kk ({ y with ep := (x.ep + 1) % 18446744073709551616 }, B, e) hK8 ⟨⟨Nat.mod_lt _ (by decide), hy2, hy3⟩, hsy⟩ ⟨rfl, rfl, rfl, rfl, trivial⟩ (fun _ h => h)
    ·
      refine J.skip ?_
      refine J.then_n ?_
      exact J.kk (y, B, e) hK8 ⟨hgy, hsy⟩ ⟨rfl, rfl, rfl, rfl, trivial⟩ (fun _ h => h)
  rintro ⟨y, B, e⟩ ⟨hgy, hsy⟩
  dsimp only at hgy hsy ⊢
  obtain ⟨hy1, hy2, hy3⟩ := id hgy
  refine J.cut (fun t : Hd × Option Addr × Nat => [(2, B8 how), (7, Ptr g7), (8, Ptr g8), (9, Str x.dig)]) (fun t => [F, blk g3 [N64 ep, Str p, I d, I a, Str ns] 55, blk g4 [N64 ep2, Str p2, I d2, I a2, Str ns2] 55, mA, mB, blk g7 [N64 x.ep, Str x.par, I x.dep, I x.aud, .slice A x.nodes.length c] 57, blk g8 [N64 t.1.ep, Str t.1.par, I t.1.dep, I t.1.aud, .slice t.2.1 t.1.nodes.length t.2.2] 57]) (fun t => t.1.good ∧ (∀ G, Le mA G → Le mB G → Sl G 1 t.2.1 t.1.nodes.length t.2.2 (strsV t.1.nodes))) (fun K10 hK10 => ?_) ?_
  ·
    refine J.seq (fun K11 hK11 => ?_)
    refine J.region ?_
    refine J.y (op_move rfl rfl) rfl rfl rfl ?_
    refine J.y (op_and8 (b := 4) rfl rfl rfl) rfl rfl rfl ?_
    refine J.y (op_eql rfl rfl rfl) rfl rfl rfl ?_
    refine J.nil ?_
    refine J.then_n (J.k hK11 ?_)
    refine J.keepE [(2, _), (7, _), (8, _), (9, _), (36, _)] ⟨rfl, rfl, rfl, rfl, rfl, trivial⟩ ?_
    refine J.ite rfl (fun h36 => ?_) (fun h36 => ?_)
    ·
      refine J.draw [blk g7 [N64 x.ep, Str x.par, I x.dep, I x.aud, .slice A x.nodes.length c] 57] [] (.y 0 (.y 1 (.y 2 (.y 3 (.y 4 (.y 6 (.y 7 (.e 5 (.y 8 (.y 9 (.e 10 (.y 11 (.e 12 (.y 13 (.e 14 .nil))))))))))))))) Tryd.wide (by decide +kernel) (by simp) ?_
      refine J.dy rfl (op_fieldAddr (j := 2) rfl rfl Tryd.underlying57 rfl Tryd.sizeOf3 rfl) rfl rfl rfl rfl ?_
      refine J.dy rfl (op_loadB 0 rfl rfl rfl Tryd.isAgg3 rfl) rfl rfl rfl rfl ?_
      refine J.dy rfl (op_fieldAddr (j := 4) rfl rfl Tryd.underlying57 rfl Tryd.sizeOf30 rfl) rfl rfl rfl rfl ?_
      refine J.dy rfl (op_loadB 0 rfl rfl rfl Tryd.isAgg30 rfl) rfl rfl rfl rfl ?_
      refine J.dy rfl (op_fieldAddr (j := 3) rfl rfl Tryd.underlying57 rfl Tryd.sizeOf3 rfl) rfl rfl rfl rfl ?_
      refine J.dy rfl (op_fieldAddr (j := 3) rfl rfl Tryd.underlying57 rfl Tryd.sizeOf3 rfl) rfl rfl rfl rfl ?_
      refine J.dy rfl (op_loadB 0 rfl rfl rfl Tryd.isAgg3 rfl) rfl rfl rfl rfl ?_
      refine J.de rfl (YOp.eop (op_loadB 6 rfl rfl rfl Tryd.isAgg3 rfl)) rfl rfl rfl (by simp) ?_
      intro _ _
      refine J.dy rfl (op_max rfl rfl rfl) rfl rfl rfl rfl ?_
      refine J.dy rfl (op_fieldAddr (j := 2) rfl rfl Tryd.underlying57 rfl Tryd.sizeOf3 rfl) rfl rfl rfl rfl ?_
      refine J.dsN rfl (op_store (i := 6) (vs := [I x.dep]) rfl rfl rfl rfl rfl Tryd.sizeOf3 rfl (by simp)) rfl rfl (by simp) (fun _ _ => ?_)
      change J _ _ _ [F, blk g3 [N64 ep, Str p, I d, I a, Str ns] 55, blk g4 [N64 ep2, Str p2, I d2, I a2, Str ns2] 55, mA, mB, blk g7 [N64 x.ep, Str x.par, I x.dep, I x.aud, .slice A x.nodes.length c] 57, blk g8 [N64 y.ep, Str y.par, I x.dep, I y.aud, .slice B y.nodes.length e] 57] _
      refine J.dy rfl (op_fieldAddr (j := 4) rfl rfl Tryd.underlying57 rfl Tryd.sizeOf30 rfl) rfl rfl rfl rfl ?_
      refine J.dsN rfl (op_store (i := 6) (vs := [.slice A x.nodes.length c]) rfl rfl rfl rfl rfl Tryd.sizeOf30 rfl (by simp)) rfl rfl (by simp) (fun _ _ => ?_)
      change J _ _ _ [F, blk g3 [N64 ep, Str p, I d, I a, Str ns] 55, blk g4 [N64 ep2, Str p2, I d2, I a2, Str ns2] 55, mA, mB, blk g7 [N64 x.ep, Str x.par, I x.dep, I x.aud, .slice A x.nodes.length c] 57, blk g8 [N64 y.ep, Str y.par, I x.dep, I y.aud, .slice A x.nodes.length c] 57] _
      refine J.dy rfl (op_fieldAddr (j := 3) rfl rfl Tryd.underlying57 rfl Tryd.sizeOf3 rfl) rfl rfl rfl rfl ?_
      refine J.dsN rfl (op_store (i := 6) (vs := [I (max y.aud x.aud)]) rfl rfl rfl rfl rfl Tryd.sizeOf3 rfl (by simp)) rfl rfl (by simp) (fun _ _ => ?_)
      change J _ _ _ [F, blk g3 [N64 ep, Str p, I d, I a, Str ns] 55, blk g4 [N64 ep2, Str p2, I d2, I a2, Str ns2] 55, mA, mB, blk g7 [N64 x.ep, Str x.par, I x.dep, I x.aud, .slice A x.nodes.length c] 57, blk g8 [N64 y.ep, Str y.par, I x.dep, I (max y.aud x.aud), .slice A x.nodes.length c] 57] _
      refine J.dnil ?_
      refine J.then_n ?_
      first | exact J.kk (y, B, e) hK10 ⟨hgy, hsy⟩ ⟨rfl, rfl, rfl, rfl, trivial⟩ (fun _ h => h) | exact J.kk ({ y with dep := x.dep, nodes := x.nodes, aud := max y.aud x.aud }, A, c) hK10 ⟨⟨hy1, hy2, hg.2.2⟩, fun G h1 _ => hsl.mono h1⟩ ⟨rfl, rfl, rfl, rfl, trivial⟩ (fun _ h => h)
    ·
      refine J.skip ?_
      refine J.then_n ?_
      first | exact J.kk (y, B, e) hK10 ⟨hgy, hsy⟩ ⟨rfl, rfl, rfl, rfl, trivial⟩ (fun _ h => h) | exact J.kk ({ y with dep := x.dep, nodes := x.nodes, aud := max y.aud x.aud }, A, c) hK10 ⟨⟨hy1, hy2, hg.2.2⟩, fun G h1 _ => hsl.mono h1⟩ ⟨rfl, rfl, rfl, rfl, trivial⟩ (fun _ h => h)
  rintro ⟨y, B, e⟩ ⟨hgy, hsy⟩
  dsimp only at hgy hsy ⊢
  obtain ⟨hy1, hy2, hy3⟩ := id hgy
  refine J.seq (fun K12 hK12 => ?_)
  obtain ⟨hx1, hx2, hx3⟩ := id hg
  refine J.region ?_
  refine J.y (op_loadBA 6 rfl rfl rfl Tryd.isAgg57 Tryd.sizeOf57 rfl) rfl rfl rfl ?_
  refine J.e (op_call rfl rfl ent30 (Ct.use0 (fun F' hF => plain_ct F' y B e))) rfl rfl rfl ?_
  intro g51 _
  refine J.e (op_call rfl rfl ent31 (Ct.use0 (fun F' hF => encode19_ct F' y B e hgy (hsy F' (hF mA (by simp)) (hF mB (by simp)))))) rfl rfl rfl ?_
  intro g52 _
  refine J.y (op_move rfl rfl) rfl rfl rfl ?_
  refine J.y (op_extract (v := Str y.enc) rfl rfl rfl) rfl rfl rfl ?_
  refine J.y (op_extract (v := I y.err) rfl rfl rfl) rfl rfl rfl ?_
  refine J.y (op_assign rfl rfl) rfl rfl rfl ?_
  refine J.y (op_assign rfl rfl) rfl rfl rfl ?_
  refine J.nil ?_
  refine J.then_n (J.k hK12 ?_)
  refine J.keepE [(7, _), (8, _), (9, _), (11, _)] ⟨rfl, rfl, rfl, rfl, trivial⟩ ?_
  refine J.seq (fun K13 hK13 => ?_)
  refine J.region ?_
  refine J.y (op_move rfl rfl) rfl rfl rfl ?_
  refine J.y (op_assign rfl rfl) rfl rfl rfl ?_
  refine J.nil ?_
  refine J.then_n (J.k hK13 ?_)
  refine J.keepE [(7, _), (8, _), (9, _), (11, _), (12, _)] ⟨rfl, rfl, rfl, rfl, rfl, trivial⟩ ?_
  refine J.cut (fun _ : Unit => [(7, Ptr g7), (8, Ptr g8), (11, I (x.next y)), (12, I y.gen)]) (fun _ => [F, blk g3 [N64 ep, Str p, I d, I a, Str ns] 55, blk g4 [N64 ep2, Str p2, I d2, I a2, Str ns2] 55, mA, mB, blk g7 [N64 x.ep, Str x.par, I x.dep, I x.aud, .slice A x.nodes.length c] 57, blk g8 [N64 y.ep, Str y.par, I y.dep, I y.aud, .slice B y.nodes.length e] 57]) (fun _ => True) (fun K14 hK14 => ?_) ?_
  ·
    refine J.seq (fun K15 hK15 => ?_)
    refine J.region ?_
    refine J.y (op_move rfl rfl) rfl rfl rfl ?_
    refine J.y (op_eql rfl rfl rfl) rfl rfl rfl ?_
    refine J.nil ?_
    refine J.then_n (J.k hK15 ?_)
    refine J.keepE [(7, _), (8, _), (9, _), (11, _), (12, _), (57, _)] ⟨rfl, rfl, rfl, rfl, rfl, rfl, trivial⟩ ?_
    refine J.ite rfl (fun h57 => ?_) (fun h57 => ?_)
    ·
      refine J.cut (fun _ : Unit => [(7, Ptr g7), (8, Ptr g8), (11, I (x.next y)), (12, I y.err)]) (fun _ => [F, blk g3 [N64 ep, Str p, I d, I a, Str ns] 55, blk g4 [N64 ep2, Str p2, I d2, I a2, Str ns2] 55, mA, mB, blk g7 [N64 x.ep, Str x.par, I x.dep, I x.aud, .slice A x.nodes.length c] 57, blk g8 [N64 y.ep, Str y.par, I y.dep, I y.aud, .slice B y.nodes.length e] 57]) (fun _ => True) (fun K16 hK16 => ?_) ?_
      ·
        refine J.seq (fun K17 hK17 => ?_)
        refine J.region ?_
        refine J.y (op_fieldAddr (j := 0) rfl rfl Tryd.underlying57 rfl Tryd.sizeOf47 rfl) rfl rfl rfl ?_
        refine J.y (op_loadB 6 rfl rfl rfl Tryd.isAgg47 rfl) rfl rfl rfl ?_
        refine J.y (op_eql rfl rfl rfl) rfl rfl rfl ?_
        refine J.y (op_move rfl rfl) rfl rfl rfl ?_
        refine J.split (d := 61) rfl (fun h61 => ?_) (fun h61 => ?_)
        ·
          refine J.no (Wan.is rfl rfl rfl rfl rfl) rfl rfl ?_
          refine J.no (Wan.is rfl rfl rfl rfl rfl) rfl rfl ?_
          refine J.no (Wan.is rfl rfl rfl rfl rfl) rfl rfl ?_
          refine J.no (Wan.is rfl rfl rfl rfl rfl) rfl rfl ?_
          refine J.no (Wan.is rfl rfl rfl rfl rfl) rfl rfl ?_
          refine J.no (Wan.is rfl rfl rfl rfl rfl) rfl rfl ?_
          refine J.y (op_pickT rfl rfl rfl) rfl rfl rfl ?_
          refine J.nil ?_
          refine J.then_n (J.k hK17 ?_)
          refine J.keepE [(7, _), (8, _), (9, _), (11, _), (12, _), (68, _)] ⟨rfl, rfl, rfl, rfl, rfl, rfl, trivial⟩ ?_
          refine J.condT rfl rfl ?_
          refine J.region ?_
          refine J.y (op_assign rfl rfl) rfl rfl rfl ?_
          refine J.nil ?_
          refine J.then_n ?_
          exact J.kk () hK16 trivial ⟨rfl, rfl, by rw [next_2 (by omega) (by omega)]; rfl, rfl, trivial⟩ (fun _ h => h)
        ·
          refine J.yg (Wan.is rfl rfl rfl rfl rfl) (op_fieldAddr (j := 0) rfl rfl Tryd.underlying57 rfl Tryd.sizeOf47 rfl) rfl rfl ?_
          refine J.yg (Wan.is rfl rfl rfl rfl rfl) (op_loadB 6 rfl rfl rfl Tryd.isAgg47 rfl) rfl rfl ?_
          refine J.yg (Wan.is rfl rfl rfl rfl rfl) (op_subU (b := 1) rfl rfl rfl (by omega)) rfl rfl ?_
          refine J.yg (Wan.is rfl rfl rfl rfl rfl) (op_fieldAddr (j := 0) rfl rfl Tryd.underlying57 rfl Tryd.sizeOf47 rfl) rfl rfl ?_
          refine J.yg (Wan.is rfl rfl rfl rfl rfl) (op_loadB 5 rfl rfl rfl Tryd.isAgg47 rfl) rfl rfl ?_
          refine J.yg (Wan.is rfl rfl rfl rfl rfl) (op_neq rfl rfl rfl) rfl rfl ?_
          refine J.y (op_pickF rfl rfl rfl) rfl rfl rfl ?_
          refine J.nil ?_
          refine J.then_n (J.k hK17 ?_)
          refine J.keepE [(7, _), (8, _), (9, _), (11, _), (12, _), (68, _)] ⟨rfl, rfl, rfl, rfl, rfl, rfl, trivial⟩ ?_
          refine J.ite rfl (fun h68 => ?_) (fun h68 => ?_)
          ·
            refine J.region ?_
            refine J.y (op_assign rfl rfl) rfl rfl rfl ?_
            refine J.nil ?_
            refine J.then_n ?_
            exact J.kk () hK16 trivial ⟨rfl, rfl, by rw [next_2 (by omega) (by omega)]; rfl, rfl, trivial⟩ (fun _ h => h)
          ·
            refine J.seq (fun K18 hK18 => ?_)
            refine J.region ?_
            refine J.y (op_move rfl rfl) rfl rfl rfl ?_
            refine J.y (op_seq rfl rfl rfl) rfl rfl rfl ?_
            refine J.y (op_move rfl rfl) rfl rfl rfl ?_
            refine J.split (d := 71) rfl (fun h71 => ?_) (fun h71 => ?_)
            ·
              refine J.no (Wan.is rfl rfl rfl rfl rfl) rfl rfl ?_
              refine J.no (Wan.is rfl rfl rfl rfl rfl) rfl rfl ?_
              refine J.no (Wan.is rfl rfl rfl rfl rfl) rfl rfl ?_
              refine J.no (Wan.is rfl rfl rfl rfl rfl) rfl rfl ?_
              refine J.y (op_pickT rfl rfl rfl) rfl rfl rfl ?_
              refine J.nil ?_
              refine J.then_n (J.k hK18 ?_)
              refine J.keepE [(7, _), (8, _), (11, _), (12, _), (76, _)] ⟨rfl, rfl, rfl, rfl, rfl, trivial⟩ ?_
              refine J.condT rfl rfl ?_
              refine J.region ?_
              refine J.y (op_assign rfl rfl) rfl rfl rfl ?_
              refine J.nil ?_
              refine J.then_n ?_
              exact J.kk () hK16 trivial ⟨rfl, rfl, by rw [next_3 (by omega) (by omega) (.inl h71)]; rfl, rfl, trivial⟩ (fun _ h => h)
            ·
              refine J.yg (Wan.is rfl rfl rfl rfl rfl) (op_fieldAddr (j := 1) rfl rfl Tryd.underlying57 rfl Tryd.sizeOf9 rfl) rfl rfl ?_
              refine J.yg (Wan.is rfl rfl rfl rfl rfl) (op_loadB 6 rfl rfl rfl Tryd.isAgg9 rfl) rfl rfl ?_
              refine J.yg (Wan.is rfl rfl rfl rfl rfl) (op_move rfl rfl) rfl rfl ?_
              refine J.yg (Wan.is rfl rfl rfl rfl rfl) (op_sne rfl rfl rfl) rfl rfl ?_
              refine J.y (op_pickF rfl rfl rfl) rfl rfl rfl ?_
              refine J.nil ?_
              refine J.then_n (J.k hK18 ?_)
              refine J.keepE [(7, _), (8, _), (11, _), (12, _), (76, _)] ⟨rfl, rfl, rfl, rfl, rfl, trivial⟩ ?_
              refine J.ite rfl (fun h76 => ?_) (fun h76 => ?_)
              ·
                refine J.region ?_
                refine J.y (op_assign rfl rfl) rfl rfl rfl ?_
                refine J.nil ?_
                refine J.then_n ?_
                exact J.kk () hK16 trivial ⟨rfl, rfl, by rw [next_3 (by omega) (by omega) (.inr h76)]; rfl, rfl, trivial⟩ (fun _ h => h)
              ·
                refine J.seq (fun K19 hK19 => ?_)
                refine J.region ?_
                refine J.y (op_fieldAddr (j := 2) rfl rfl Tryd.underlying57 rfl Tryd.sizeOf3 rfl) rfl rfl rfl ?_
                refine J.y (op_loadB 6 rfl rfl rfl Tryd.isAgg3 rfl) rfl rfl rfl ?_
                refine J.y (op_fieldAddr (j := 2) rfl rfl Tryd.underlying57 rfl Tryd.sizeOf3 rfl) rfl rfl rfl ?_
                refine J.y (op_loadB 5 rfl rfl rfl Tryd.isAgg3 rfl) rfl rfl rfl ?_
                refine J.y (op_neq rfl rfl rfl) rfl rfl rfl ?_
                refine J.y (op_move rfl rfl) rfl rfl rfl ?_
                refine J.split (d := 82) rfl (fun h82 => ?_) (fun h82 => ?_)
                ·
                  refine J.no (Wan.is rfl rfl rfl rfl rfl) rfl rfl ?_
                  refine J.no (Wan.is rfl rfl rfl rfl rfl) rfl rfl ?_
                  refine J.no (Wan.is rfl rfl rfl rfl rfl) rfl rfl ?_
                  refine J.no (Wan.is rfl rfl rfl rfl rfl) rfl rfl ?_
                  refine J.no (Wan.is rfl rfl rfl rfl rfl) rfl rfl ?_
                  refine J.y (op_pickT rfl rfl rfl) rfl rfl rfl ?_
                  refine J.nil ?_
                  refine J.then_n (J.k hK19 ?_)
                  refine J.keepE [(7, _), (8, _), (11, _), (12, _), (88, _)] ⟨rfl, rfl, rfl, rfl, rfl, trivial⟩ ?_
                  refine J.condT rfl rfl ?_
                  refine J.region ?_
                  refine J.y (op_assign rfl rfl) rfl rfl rfl ?_
                  refine J.nil ?_
                  refine J.then_n ?_
                  exact J.kk () hK16 trivial ⟨rfl, rfl, by rw [next_4 (by omega) (by omega) (fun h => h.elim h71 h76) (by omega)]; rfl, rfl, trivial⟩ (fun _ h => h)
                ·
                  refine J.yg (Wan.is rfl rfl rfl rfl rfl) (op_fieldAddr (j := 3) rfl rfl Tryd.underlying57 rfl Tryd.sizeOf3 rfl) rfl rfl ?_
                  refine J.yg (Wan.is rfl rfl rfl rfl rfl) (op_loadB 6 rfl rfl rfl Tryd.isAgg3 rfl) rfl rfl ?_
                  refine J.yg (Wan.is rfl rfl rfl rfl rfl) (op_fieldAddr (j := 3) rfl rfl Tryd.underlying57 rfl Tryd.sizeOf3 rfl) rfl rfl ?_
                  refine J.yg (Wan.is rfl rfl rfl rfl rfl) (op_loadB 5 rfl rfl rfl Tryd.isAgg3 rfl) rfl rfl ?_
                  refine J.yg (Wan.is rfl rfl rfl rfl rfl) (op_lss rfl rfl rfl) rfl rfl ?_
                  refine J.y (op_pickF rfl rfl rfl) rfl rfl rfl ?_
                  refine J.nil ?_
                  refine J.then_n (J.k hK19 ?_)
                  refine J.keepE [(7, _), (8, _), (11, _), (12, _), (88, _)] ⟨rfl, rfl, rfl, rfl, rfl, trivial⟩ ?_
                  refine J.ite rfl (fun h88 => ?_) (fun h88 => ?_)
                  ·
                    refine J.region ?_
                    refine J.y (op_assign rfl rfl) rfl rfl rfl ?_
                    refine J.nil ?_
                    refine J.then_n ?_
                    exact J.kk () hK16 trivial ⟨rfl, rfl, by rw [next_4 (by omega) (by omega) (fun h => h.elim h71 h76) (by omega)]; rfl, rfl, trivial⟩ (fun _ h => h)
                  ·
                    refine J.skip ?_
                    refine J.then_n ?_
                    exact J.kk () hK16 trivial ⟨rfl, rfl, by rw [next_5 (by omega) (by omega) (fun h => h.elim h71 h76) (by omega), h57]; rfl, rfl, trivial⟩ (fun _ h => h)
      rintro _ _
      refine J.seq (fun K20 hK20 => ?_)
      refine J.region ?_
      refine J.y (op_fieldAddr (j := 0) rfl rfl Tryd.underlying57 rfl Tryd.sizeOf47 rfl) rfl rfl rfl ?_
      refine J.y (op_loadB 6 rfl rfl rfl Tryd.isAgg47 rfl) rfl rfl rfl ?_
      refine J.y (op_neq rfl rfl rfl) rfl rfl rfl ?_
      refine J.nil ?_
      refine J.then_n (J.k hK20 ?_)
      refine J.keepE [(7, _), (8, _), (11, _), (12, _), (91, _)] ⟨rfl, rfl, rfl, rfl, rfl, trivial⟩ ?_
      refine J.ite rfl (fun h91 => ?_) (fun h91 => ?_)
      ·
        refine J.region ?_
        refine J.y (op_assign rfl rfl) rfl rfl rfl ?_
        refine J.nil ?_
        refine J.then_n ?_
        exact J.kk () hK14 trivial ⟨rfl, rfl, rfl, by rw [gen_2 (by omega) (by omega)]; rfl, trivial⟩ (fun _ h => h)
      ·
        refine J.seq (fun K21 hK21 => ?_)
        refine J.region ?_
        refine J.y (op_fieldAddr (j := 1) rfl rfl Tryd.underlying57 rfl Tryd.sizeOf9 rfl) rfl rfl rfl ?_
        refine J.y (op_loadB 6 rfl rfl rfl Tryd.isAgg9 rfl) rfl rfl rfl ?_
        refine J.y (op_sne rfl rfl rfl) rfl rfl rfl ?_
        refine J.nil ?_
        refine J.then_n (J.k hK21 ?_)
        refine J.keepE [(7, _), (8, _), (11, _), (12, _), (94, _)] ⟨rfl, rfl, rfl, rfl, rfl, trivial⟩ ?_
        refine J.ite rfl (fun h94 => ?_) (fun h94 => ?_)
        ·
          change y.par ≠ noughts at h94
          refine J.region ?_
          refine J.y (op_assign rfl rfl) rfl rfl rfl ?_
          refine J.nil ?_
          refine J.then_n ?_
          exact J.kk () hK14 trivial ⟨rfl, rfl, rfl, by rw [gen_3 (by omega) (by omega) h94]; rfl, trivial⟩ (fun _ h => h)
        ·
          change ¬ y.par ≠ noughts at h94
          refine J.skip ?_
          refine J.then_n ?_
          exact J.kk () hK14 trivial ⟨rfl, rfl, rfl, by rw [gen_4 (by omega) (by omega) h94, h57]; rfl, trivial⟩ (fun _ h => h)
    ·
      refine J.skip ?_
      refine J.then_n ?_
      exact J.kk () hK14 trivial ⟨rfl, rfl, by rw [next_1 (by omega)]; rfl, by rw [gen_1 (by omega)]; rfl, trivial⟩ (fun _ h => h)
  rintro _ _
  refine J.seq (fun K22 hK22 => ?_)
  refine J.region ?_
  refine J.y (op_loadBA 5 rfl rfl rfl Tryd.isAgg57 Tryd.sizeOf57 rfl) rfl rfl rfl ?_
  refine J.y (op_loadBA 6 rfl rfl rfl Tryd.isAgg57 Tryd.sizeOf57 rfl) rfl rfl rfl ?_
  refine J.e (op_call rfl rfl ent32 (Ct.use0 (fun F' hF => hnext_ct F' (hK.mono (hF F (by simp))) x A c hg (hsl.mono (hF mA (by simp))) y B e hgy (hsy F' (hF mA (by simp)) (hF mB (by simp)))))) rfl rfl rfl ?_
  intro g97 _
  refine J.y (op_move rfl rfl) rfl rfl rfl ?_
  refine J.y ((op_eql rfl rfl rfl).as (v' := .bool true) (congrArg Value.bool (decide_eq_true (rfl)))) rfl rfl rfl ?_
  refine J.y (op_move rfl rfl) rfl rfl rfl ?_
  refine J.yg (Wan.is rfl rfl rfl rfl rfl) (op_loadBA 6 rfl rfl rfl Tryd.isAgg57 Tryd.sizeOf57 rfl) rfl rfl ?_
  refine J.eg (Wan.is rfl rfl rfl rfl rfl) (op_call rfl rfl ent33 (Ct.use0 (fun F' hF => hgenesis_ct F' y B e hgy (hsy F' (hF mA (by simp)) (hF mB (by simp)))))) rfl rfl ?_
  intro g102 _
  refine J.yg (Wan.is rfl rfl rfl rfl rfl) (op_move rfl rfl) rfl rfl ?_
  refine J.yg (Wan.is rfl rfl rfl rfl rfl) ((op_eql rfl rfl rfl).as (v' := .bool true) (congrArg Value.bool (decide_eq_true (rfl)))) rfl rfl ?_
  refine J.y (op_pickT rfl rfl rfl) rfl rfl rfl ?_
  refine J.y (op_assign rfl rfl) rfl rfl rfl ?_
  refine J.nil ?_
  refine J.then_n (J.k hK22 ?_)
  refine J.keepE [(6, _)] ⟨rfl, trivial⟩ ?_
  refine J.ret ?_
  exact J.done hw0 (fun _ _ h => h) (res1 rfl rfl) (retOk () rfl trivial [0] rfl (by decide))

theorem hdr_of {H : Type} {enc : TypeId × Value → H} {W : World} {r : Reach} {b0 : Nat} {v : Value} {d : DataW H} {ps : List MemPlace} (hval : Value.okWide Tryd.prog W r b0 55 v) (h : DataW.Trod enc Tryd.prog W 0 (fun _ => true) true 55 v d ps) :
    ∃ (ep : UInt64) (p : List UInt8) (d a : Int) (ns : List UInt8), v = .agg #[W64 ep, Str p, I d, I a, Str ns] := by
  obtain ⟨x, rfl, fuel, y, h1⟩ := open_struct Tryd.underlying55 hval h
  obtain ⟨hl, hf⟩ := struct_of Tryd.underlying55 h1
  have hc : Tryd.prog.cellsOf 55 = 5 := by kernel_rfl
  have c3 : Tryd.prog.cellsOf 3 = 1 := by kernel_rfl
  have c8 : Tryd.prog.cellsOf 47 = 1 := by kernel_rfl
  have c9 : Tryd.prog.cellsOf 9 = 1 := by kernel_rfl
  rw [hc] at hl
  match x, hl, hf with
  | [a, b, c, e, g], _, hf =>
    obtain ⟨_, _, h0⟩ := hf 0 _ rfl
    obtain ⟨_, _, h1⟩ := hf 1 _ rfl
    obtain ⟨_, _, h2⟩ := hf 2 _ rfl
    obtain ⟨_, _, h3⟩ := hf 3 _ rfl
    obtain ⟨_, _, h4⟩ := hf 4 _ rfl
    dsimp only at h0 h1 h2 h3 h4
    rw [c8] at h0
    rw [c9] at h1 h4
    rw [c3] at h2 h3
    obtain ⟨z0, rfl⟩ := u64_of Tryd.underlying47 h0
    obtain ⟨s1, rfl⟩ := str_of Tryd.underlying9 h1
    obtain ⟨z2, rfl, _⟩ := i64_of Tryd.underlying3 h2
    obtain ⟨z3, rfl, _⟩ := i64_of Tryd.underlying3 h3
    obtain ⟨s4, rfl⟩ := str_of Tryd.underlying9 h4
    exact ⟨z0, s1, z2, z3, s4, rfl⟩

end Go.Proofs.YtlopnfgacopkbaaDoor
