/- A part of the proof: contracts of functions of the program, each for every state of the heaps that it names. -/
import Derived.Test.YtpcffgkmpmcobaaDoorPrf6
import Derived.Test.YtpcffgkmpmcobaaDoorPrf4
set_option linter.unusedSimpArgs false
set_option linter.unusedVariables false
namespace Go.Proofs.YtpcffgkmpmcobaaDoor
open Go Go.Fw
set_option maxRecDepth 100000
set_option maxHeartbeats 1000000
theorem ent75 : Enters Tryd.prog 75 := Enters.of Tryd.func75 rfl (by kernel_rfl)

theorem proofTells_no (F : Hp) (hK : Cells F ⟨4, 0, none⟩ (Sha.K.map W32)) (A0 : Option Addr) (n0 c0 : Nat) (l0 : List Pz) (sl0 : Sl F 3 A0 n0 c0 (putzV l0)) (b0 b1 : UInt8) (z : Int) (hz : z < 0 ∨ 128 < z) : Ct Tryd.prog 13 [.slice A0 n0 c0, .agg #[B8 (b0), B8 (b1)], I (z)] [F] (fun _ : Unit => .bool true) (fun _ => True) (fun _ => [F]) := by
  refine Ct.walk Tryd.func13 rfl Tryd.ntmps13 rfl (fun w0 hw0 => ?_)
  change J _ [(0, _), (1, _), (2, _)] _ _ _
  refine J.seq (fun K1 hK1 => ?_)
  refine J.region ?_
  refine J.e (op_box (l := [B8 (b0), B8 (b1)]) rfl rfl rfl) rfl rfl rfl ?_
  intro g4 _
  change J _ _ _ [F, blk g4 [B8 (b0), B8 (b1)] 96] _
  refine J.y (op_assign rfl rfl) rfl rfl rfl ?_
  refine J.nil ?_
  refine J.then_n (J.k hK1 ?_)
  refine J.keepE [(0, _), (2, _), (4, _)] ⟨rfl, rfl, rfl, trivial⟩ ?_
  refine J.seq (fun K2 hK2 => ?_)
  refine J.seq (fun K3 hK3 => ?_)
  refine J.region ?_
  refine J.e (op_call rfl rfl ent71 (Ct.use0 (fun F' hF => speaks14_ct F' (hK.mono (hF F (by simp)))))) rfl rfl rfl ?_
  intro g20 _
  refine J.y (op_not rfl rfl) rfl rfl rfl ?_
  refine J.nil ?_
  refine J.then_n (J.k hK3 ?_)
  refine J.keepE [(0, _), (2, _), (4, _), (21, _)] ⟨rfl, rfl, rfl, rfl, trivial⟩ ?_
  refine J.condF rfl rfl ?_
  refine J.skip ?_
  refine J.then_n (J.k hK2 ?_)
  refine J.keepE [(0, _), (2, _), (4, _)] ⟨rfl, rfl, rfl, trivial⟩ ?_
  refine J.seq (fun K4 hK4 => ?_)
  refine J.region ?_
  refine J.y (op_move rfl rfl) rfl rfl rfl ?_
  refine J.e (op_call rfl rfl ent72 (Ct.use (new := fun x : List Pr × List Sm.PR × Option Addr × Nat × Hp × Nat × Hp => [x.2.2.2.2.1, x.2.2.2.2.2.2]) (fun F' hF => both14_ct F' A0 n0 c0 l0 (sl0.mono (hF F (by simp)))))) rfl rfl rfl ?_
  rintro ⟨m, kv, A, c, mr, g, mo⟩ ⟨hp, hm, hr, ht⟩
  change J _ ((24, .tuple #[.slice A m.length c, Ptr g]) :: _) _ [F, blk g4 [B8 (b0), B8 (b1)] 96, mr, mo] _
  refine J.y (op_move rfl rfl) rfl rfl rfl ?_
  refine J.y (op_extract (v := .slice A m.length c) rfl rfl rfl) rfl rfl rfl ?_
  refine J.y (op_extract (v := Ptr g) rfl rfl rfl) rfl rfl rfl ?_
  refine J.y (op_assign rfl rfl) rfl rfl rfl ?_
  refine J.y (op_assign rfl rfl) rfl rfl rfl ?_
  refine J.nil ?_
  refine J.then_n (J.k hK4 ?_)
  refine J.keepE [(2, _), (4, _), (7, _), (8, _)] ⟨rfl, rfl, rfl, rfl, trivial⟩ ?_
  refine J.seq (fun K5 hK5 => ?_)
  dsimp only at hp hm hr ht
  have hfi := hp.fine
  have hln := hp.len
  have hwm : Sm.WF (128 - 0) (m.map toP) := hp.wf
  have hvm := hp.small
  have hkl := Sm.keysS_len kv
  refine J.region ?_
  refine J.y (op_indexAddrJ (i := 0) (j := 0) rfl rfl rfl Tryd.underlying96 Tryd.sizeOf5 (by omega) rfl) rfl rfl rfl ?_
  refine J.y (op_loadB 1 (v := B8 (b0)) rfl rfl rfl Tryd.isAgg5 rfl) rfl rfl rfl ?_
  refine J.y (op_indexAddrJ (i := 1) (j := 1) rfl rfl rfl Tryd.underlying96 Tryd.sizeOf5 (by omega) rfl) rfl rfl rfl ?_
  refine J.y (op_loadB 1 (v := B8 (b1)) rfl rfl rfl Tryd.isAgg5 rfl) rfl rfl rfl ?_
  refine J.e (op_call rfl rfl ent73 (Ct.use0 (fun F' hF => key14_ct F' b0 b1))) rfl rfl rfl ?_
  intro g31 _
  refine J.y (op_assign rfl rfl) rfl rfl rfl ?_
  refine J.nil ?_
  refine J.then_n (J.k hK5 ?_)
  refine J.keepE [(2, _), (7, _), (8, _), (9, _)] ⟨rfl, rfl, rfl, rfl, trivial⟩ ?_
  refine J.seq (fun K6 hK6 => ?_)
  obtain ⟨k, hk⟩ : ∃ k, k = keyP b0 b1 := ⟨_, rfl⟩
  rw [← hk]
  have hk16 : k.length = 16 := by rw [hk]; rfl
  refine J.region ?_
  refine J.y (op_move rfl rfl) rfl rfl rfl ?_
  refine J.y (op_move rfl rfl) rfl rfl rfl ?_
  refine J.y (op_move rfl rfl) rfl rfl rfl ?_
  refine J.e (op_call rfl rfl ent74 (Ct.use0 (fun F' hF => proveB_ct F' g k z (by omega)))) rfl rfl rfl ?_
  intro g36 _
  refine J.y (op_move rfl rfl) rfl rfl rfl ?_
  refine J.y (op_extract (v := .agg #[.slice none 0 0, .bool false, Str [], Str []]) rfl rfl rfl) rfl rfl rfl ?_
  refine J.y (op_extract (v := I ((10 : Nat) : Int)) rfl rfl rfl) rfl rfl rfl ?_
  refine J.e (op_alloc (l := [.slice none 0 0, .bool false, Str [], Str []]) rfl Tryd.zeroValue107 rfl) rfl rfl rfl ?_
  intro g10 _
  change J _ _ _ [F, blk g4 [B8 (b0), B8 (b1)] 96, mr, mo, blk g10 [.slice none 0 0, .bool false, Str [], Str []] 107] _
  refine J.s (op_storeAll (i := 4) (l := [.slice none 0 0, .bool false, Str [], Str []]) (vs := [.slice none 0 0, .bool false, Str [], Str []]) rfl rfl rfl rfl rfl Tryd.sizeOf107 rfl rfl) rfl rfl (fun _ _ => ?_)
  change J _ _ _ [F, blk g4 [B8 (b0), B8 (b1)] 96, mr, mo, blk g10 [.slice none 0 0, .bool false, Str [], Str []] 107] _
  refine J.y (op_assign rfl rfl) rfl rfl rfl ?_
  refine J.nil ?_
  refine J.then_n (J.k hK6 ?_)
  refine J.keepE [(2, _), (7, _), (8, _), (9, _), (10, _), (11, _)] ⟨rfl, rfl, rfl, rfl, rfl, rfl, trivial⟩ ?_
  refine J.seq (fun K7 hK7 => ?_)
  refine J.seq (fun K8 hK8 => ?_)
  refine J.region ?_
  refine J.y (op_move rfl rfl) rfl rfl rfl ?_
  refine J.y (op_lss rfl rfl rfl) rfl rfl rfl ?_
  refine J.y (op_move rfl rfl) rfl rfl rfl ?_
  refine J.split (d := 41) rfl (fun h41 => ?_) (fun h41 => ?_)
  ·
    refine J.no (Wan.is rfl rfl rfl rfl rfl) rfl rfl ?_
    refine J.no (Wan.is rfl rfl rfl rfl rfl) rfl rfl ?_
    refine J.y (op_pickT rfl rfl rfl) rfl rfl rfl ?_
    refine J.nil ?_
    refine J.then_n (J.k hK8 ?_)
    refine J.keepE [(2, _), (7, _), (8, _), (9, _), (10, _), (11, _), (44, _)] ⟨rfl, rfl, rfl, rfl, rfl, rfl, rfl, trivial⟩ ?_
    refine J.condT rfl rfl ?_
    refine J.seq (fun K9 hK9 => ?_)
    refine J.region ?_
    refine J.y (op_move rfl rfl) rfl rfl rfl ?_
    refine J.y ((op_eql rfl rfl rfl).as (v' := .bool true) (congrArg Value.bool (decide_eq_true (by decide)))) rfl rfl rfl ?_
    refine J.y (op_assign rfl rfl) rfl rfl rfl ?_
    refine J.nil ?_
    refine J.then_n (J.k hK9 ?_)
    refine J.keepE [(6, _)] ⟨rfl, trivial⟩ ?_
    refine J.ret ?_
    refine J.then_r ?_
    exact J.done hw0 (fun _ _ h => h) (res1 rfl rfl) (retOk () rfl trivial [0] rfl (by decide))
  ·
    refine J.yg (Wan.is rfl rfl rfl rfl rfl) (op_move rfl rfl) rfl rfl ?_
    refine J.yg (Wan.is rfl rfl rfl rfl rfl) ((op_gtr rfl rfl rfl).as (v' := .bool true) (congrArg Value.bool (decide_eq_true (by omega)))) rfl rfl ?_
    refine J.y (op_pickF rfl rfl rfl) rfl rfl rfl ?_
    refine J.nil ?_
    refine J.then_n (J.k hK8 ?_)
    refine J.keepE [(2, _), (7, _), (8, _), (9, _), (10, _), (11, _), (44, _)] ⟨rfl, rfl, rfl, rfl, rfl, rfl, rfl, trivial⟩ ?_
    refine J.condT rfl rfl ?_
    refine J.seq (fun K10 hK10 => ?_)
    refine J.region ?_
    refine J.y (op_move rfl rfl) rfl rfl rfl ?_
    refine J.y ((op_eql rfl rfl rfl).as (v' := .bool true) (congrArg Value.bool (decide_eq_true (by decide)))) rfl rfl rfl ?_
    refine J.y (op_assign rfl rfl) rfl rfl rfl ?_
    refine J.nil ?_
    refine J.then_n (J.k hK10 ?_)
    refine J.keepE [(6, _)] ⟨rfl, trivial⟩ ?_
    refine J.ret ?_
    refine J.then_r ?_
    exact J.done hw0 (fun _ _ h => h) (res1 rfl rfl) (retOk () rfl trivial [0] rfl (by decide))

theorem proofTells_ok (F : Hp) (hK : Cells F ⟨4, 0, none⟩ (Sha.K.map W32)) (A0 : Option Addr) (n0 c0 : Nat) (l0 : List Pz) (sl0 : Sl F 3 A0 n0 c0 (putzV l0)) (b0 b1 : UInt8) (d : Nat) (hd : d ≤ 128) : Ct Tryd.prog 13 [.slice A0 n0 c0, .agg #[B8 (b0), B8 (b1)], I ((d : Nat) : Int)] [F] (fun _ : Unit => .bool true) (fun _ => True) (fun _ => [F]) := by
  refine Ct.walk Tryd.func13 rfl Tryd.ntmps13 rfl (fun w0 hw0 => ?_)
  change J _ [(0, _), (1, _), (2, _)] _ _ _
  refine J.seq (fun K1 hK1 => ?_)
  refine J.region ?_
  refine J.e (op_box (l := [B8 (b0), B8 (b1)]) rfl rfl rfl) rfl rfl rfl ?_
  intro g4 _
  change J _ _ _ [F, blk g4 [B8 (b0), B8 (b1)] 96] _
  refine J.y (op_assign rfl rfl) rfl rfl rfl ?_
  refine J.nil ?_
  refine J.then_n (J.k hK1 ?_)
  refine J.keepE [(0, _), (2, _), (4, _)] ⟨rfl, rfl, rfl, trivial⟩ ?_
  refine J.seq (fun K2 hK2 => ?_)
  refine J.seq (fun K3 hK3 => ?_)
  refine J.region ?_
  refine J.e (op_call rfl rfl ent71 (Ct.use0 (fun F' hF => speaks14_ct F' (hK.mono (hF F (by simp)))))) rfl rfl rfl ?_
  intro g20 _
  refine J.y (op_not rfl rfl) rfl rfl rfl ?_
  refine J.nil ?_
  refine J.then_n (J.k hK3 ?_)
  refine J.keepE [(0, _), (2, _), (4, _), (21, _)] ⟨rfl, rfl, rfl, rfl, trivial⟩ ?_
  refine J.condF rfl rfl ?_
  refine J.skip ?_
  refine J.then_n (J.k hK2 ?_)
  refine J.keepE [(0, _), (2, _), (4, _)] ⟨rfl, rfl, rfl, trivial⟩ ?_
  refine J.seq (fun K4 hK4 => ?_)
  refine J.region ?_
  refine J.y (op_move rfl rfl) rfl rfl rfl ?_
  refine J.e (op_call rfl rfl ent72 (Ct.use (new := fun x : List Pr × List Sm.PR × Option Addr × Nat × Hp × Nat × Hp => [x.2.2.2.2.1, x.2.2.2.2.2.2]) (fun F' hF => both14_ct F' A0 n0 c0 l0 (sl0.mono (hF F (by simp)))))) rfl rfl rfl ?_
  rintro ⟨m, kv, A, c, mr, g, mo⟩ ⟨hp, hm, hr, ht⟩
  change J _ ((24, .tuple #[.slice A m.length c, Ptr g]) :: _) _ [F, blk g4 [B8 (b0), B8 (b1)] 96, mr, mo] _
  refine J.y (op_move rfl rfl) rfl rfl rfl ?_
  refine J.y (op_extract (v := .slice A m.length c) rfl rfl rfl) rfl rfl rfl ?_
  refine J.y (op_extract (v := Ptr g) rfl rfl rfl) rfl rfl rfl ?_
  refine J.y (op_assign rfl rfl) rfl rfl rfl ?_
  refine J.y (op_assign rfl rfl) rfl rfl rfl ?_
  refine J.nil ?_
  refine J.then_n (J.k hK4 ?_)
  refine J.keepE [(2, _), (4, _), (7, _), (8, _)] ⟨rfl, rfl, rfl, rfl, trivial⟩ ?_
  refine J.seq (fun K5 hK5 => ?_)
  dsimp only at hp hm hr ht
  have hfi := hp.fine
  have hln := hp.len
  have hwm : Sm.WF (128 - 0) (m.map toP) := hp.wf
  have hvm := hp.small
  have hkl := Sm.keysS_len kv
  refine J.region ?_
  refine J.y (op_indexAddrJ (i := 0) (j := 0) rfl rfl rfl Tryd.underlying96 Tryd.sizeOf5 (by omega) rfl) rfl rfl rfl ?_
  refine J.y (op_loadB 1 (v := B8 (b0)) rfl rfl rfl Tryd.isAgg5 rfl) rfl rfl rfl ?_
  refine J.y (op_indexAddrJ (i := 1) (j := 1) rfl rfl rfl Tryd.underlying96 Tryd.sizeOf5 (by omega) rfl) rfl rfl rfl ?_
  refine J.y (op_loadB 1 (v := B8 (b1)) rfl rfl rfl Tryd.isAgg5 rfl) rfl rfl rfl ?_
  refine J.e (op_call rfl rfl ent73 (Ct.use0 (fun F' hF => key14_ct F' b0 b1))) rfl rfl rfl ?_
  intro g31 _
  refine J.y (op_assign rfl rfl) rfl rfl rfl ?_
  refine J.nil ?_
  refine J.then_n (J.k hK5 ?_)
  refine J.keepE [(2, _), (7, _), (8, _), (9, _)] ⟨rfl, rfl, rfl, rfl, trivial⟩ ?_
  refine J.seq (fun K6 hK6 => ?_)
  obtain ⟨k, hk⟩ : ∃ k, k = keyP b0 b1 := ⟨_, rfl⟩
  rw [← hk]
  have hk16 : k.length = 16 := by rw [hk]; rfl
  refine J.region ?_
  refine J.y (op_move rfl rfl) rfl rfl rfl ?_
  refine J.y (op_move rfl rfl) rfl rfl rfl ?_
  refine J.y (op_move rfl rfl) rfl rfl rfl ?_
  refine J.e (op_call rfl rfl ent74 (Ct.use (new := fun x : Nat × Option Addr × Nat × Hp => [x.2.2.2]) (fun F' hF => prove_ct F' (hK.mono (hF F (by simp))) g kv (ht.at.mono (hF mo (by simp))) hfi k (by first | assumption | rfl) d (by omega)))) rfl rfl rfl ?_
  rintro ⟨s36, A36, c36, m36⟩ ⟨hst36, hr36⟩
  change J _ ((36, .tuple #[.agg #[.slice A36 (bsd kv k d (s36 - d)).length c36, .bool (pThere kv k s36), Str (pKey kv k s36), Str (pVal kv k s36)], I 0]) :: _) _ [F, blk g4 [B8 (b0), B8 (b1)] 96, mr, mo, m36] _
  refine J.y (op_move rfl rfl) rfl rfl rfl ?_
  refine J.y (op_extract (v := .agg #[.slice A36 ((bsd kv k d (s36 - d)).length) c36, .bool (pThere kv k s36), Str (pKey kv k s36), Str (pVal kv k s36)]) rfl rfl rfl) rfl rfl rfl ?_
  refine J.y (op_extract (v := I ((0 : Nat) : Int)) rfl rfl rfl) rfl rfl rfl ?_
  refine J.e (op_alloc (l := [.slice none 0 0, .bool false, Str [], Str []]) rfl Tryd.zeroValue107 rfl) rfl rfl rfl ?_
  intro g10 _
  change J _ _ _ [F, blk g4 [B8 (b0), B8 (b1)] 96, mr, mo, m36, blk g10 [.slice none 0 0, .bool false, Str [], Str []] 107] _
  refine J.s (op_storeAll (i := 5) (l := [.slice none 0 0, .bool false, Str [], Str []]) (vs := [.slice A36 ((bsd kv k d (s36 - d)).length) c36, .bool (pThere kv k s36), Str (pKey kv k s36), Str (pVal kv k s36)]) rfl rfl rfl rfl rfl Tryd.sizeOf107 rfl rfl) rfl rfl (fun _ _ => ?_)
  change J _ _ _ [F, blk g4 [B8 (b0), B8 (b1)] 96, mr, mo, m36, blk g10 [.slice A36 ((bsd kv k d (s36 - d)).length) c36, .bool (pThere kv k s36), Str (pKey kv k s36), Str (pVal kv k s36)] 107] _
  refine J.y (op_assign rfl rfl) rfl rfl rfl ?_
  refine J.nil ?_
  refine J.then_n (J.k hK6 ?_)
  refine J.keepE [(2, _), (7, _), (8, _), (9, _), (10, _), (11, _)] ⟨rfl, rfl, rfl, rfl, rfl, rfl, trivial⟩ ?_
  refine J.seq (fun K7 hK7 => ?_)
  refine J.seq (fun K8 hK8 => ?_)
  have hkm := hp.klen
  have hq1 := hst36.le
  have hq2 := hst36.ge
  have hmd := min_d hd
  have hg := prove_good hfi hk16 hst36
  have hv := pVal_small hfi k s36
  have hb1 := bsd_len kv k d (s36 - d)
  have hbl := belR_len m k d
  have hwb : Sm.WF (128 - d) ((belR m k d).map toP) := hp.wfB hk16 hd
  have hvb := hp.smallB k d
  have hbe := hp.besE hk16 hst36
  refine J.region ?_
  refine J.y (op_move rfl rfl) rfl rfl rfl ?_
  refine J.y ((op_lss rfl rfl rfl).as (v' := .bool false) (congrArg Value.bool (decide_eq_false (by omega)))) rfl rfl rfl ?_
  refine J.y (op_move rfl rfl) rfl rfl rfl ?_
  refine J.yg (Wan.is rfl rfl rfl rfl rfl) (op_move rfl rfl) rfl rfl ?_
  refine J.yg (Wan.is rfl rfl rfl rfl rfl) ((op_gtr rfl rfl rfl).as (v' := .bool false) (congrArg Value.bool (decide_eq_false (by omega)))) rfl rfl ?_
  refine J.y (op_pickF rfl rfl rfl) rfl rfl rfl ?_
  refine J.nil ?_
  refine J.then_n (J.k hK8 ?_)
  refine J.keepE [(2, _), (7, _), (8, _), (9, _), (10, _), (11, _), (44, _)] ⟨rfl, rfl, rfl, rfl, rfl, rfl, rfl, trivial⟩ ?_
  refine J.condF rfl rfl ?_
  refine J.skip ?_
  refine J.then_n (J.k hK7 ?_)
  refine J.keepE [(2, _), (7, _), (8, _), (9, _), (10, _), (11, _)] ⟨rfl, rfl, rfl, rfl, rfl, rfl, trivial⟩ ?_
  refine J.seq (fun K9 hK9 => ?_)
  refine J.region ?_
  refine J.y (op_move rfl rfl) rfl rfl rfl ?_
  refine J.y (op_move rfl rfl) rfl rfl rfl ?_
  refine J.y (op_move rfl rfl) rfl rfl rfl ?_
  refine J.e (op_call rfl rfl ent75 (Ct.use (new := fun x : Option Addr × Nat × Hp => [x.2.2]) (fun F' hF => starts_ct F' A m.length c m (hr.sl.mono (hF mr (by simp))) (by omega) (by assumption) k (by omega) d (by omega)))) rfl rfl rfl ?_
  rintro ⟨A50, c50, m50⟩ h50
  try dsimp only at h50
  change J _ ((50, .slice A50 (belR m k d).length c50) :: _) _ [F, blk g4 [B8 (b0), B8 (b1)] 96, mr, mo, m36, blk g10 [.slice A36 ((bsd kv k d (s36 - d)).length) c36, .bool (pThere kv k s36), Str (pKey kv k s36), Str (pVal kv k s36)] 107, m50] _
  refine J.y (op_assign rfl rfl) rfl rfl rfl ?_
  refine J.nil ?_
  refine J.then_n (J.k hK9 ?_)
  refine J.keepE [(2, _), (8, _), (9, _), (10, _), (11, _), (12, _)] ⟨rfl, rfl, rfl, rfl, rfl, rfl, trivial⟩ ?_
  refine J.seq (fun K10 hK10 => ?_)
  refine J.region ?_
  refine J.y (op_move rfl rfl) rfl rfl rfl ?_
  refine J.y (op_move rfl rfl) rfl rfl rfl ?_
  refine J.y (op_move rfl rfl) rfl rfl rfl ?_
  refine J.e (op_call rfl rfl ent76 (Ct.use (new := fun x : Option Addr × Nat × Hp => [x.2.2]) (fun F' hF => besv_ct F' A50 ((belR m k d).length) c50 (belR m k d) (h50.sl.mono (hF m50 (by simp))) (by omega) k (by omega) d (by assumption) (by assumption) (by omega)))) rfl rfl rfl ?_
  rintro ⟨A54, c54, m54⟩ h54
  try dsimp only at h54
  change J _ ((54, .slice A54 (bes k (128 - d) ((belR m k d).map toP)).length c54) :: _) _ [F, blk g4 [B8 (b0), B8 (b1)] 96, mr, mo, m36, blk g10 [.slice A36 ((bsd kv k d (s36 - d)).length) c36, .bool (pThere kv k s36), Str (pKey kv k s36), Str (pVal kv k s36)] 107, m50, m54] _
  refine J.y (op_assign rfl rfl) rfl rfl rfl ?_
  refine J.nil ?_
  refine J.then_n (J.k hK10 ?_)
  refine J.keepE [(2, _), (8, _), (9, _), (10, _), (11, _), (12, _), (13, _)] ⟨rfl, rfl, rfl, rfl, rfl, rfl, rfl, trivial⟩ ?_
  refine J.seq (fun K11 hK11 => ?_)
  refine J.seq (fun K12 hK12 => ?_)
  rw [hbe] at h54 ⊢
  refine J.region ?_
  refine J.y (op_move rfl rfl) rfl rfl rfl ?_
  refine J.y ((op_neq rfl rfl rfl).as (v' := .bool false) (congrArg Value.bool (decide_eq_false (by decide)))) rfl rfl rfl ?_
  refine J.y (op_move rfl rfl) rfl rfl rfl ?_
  refine J.yg (Wan.is rfl rfl rfl rfl rfl) (op_fieldAddr (j := 0) rfl rfl Tryd.underlying107 rfl Tryd.sizeOf36 rfl) rfl rfl ?_
  refine J.yg (Wan.is rfl rfl rfl rfl rfl) (op_loadB 5 (v := .slice A36 ((bsd kv k d (s36 - d)).length) c36) rfl rfl rfl Tryd.isAgg36 rfl) rfl rfl ?_
  refine J.yg (Wan.is rfl rfl rfl rfl rfl) (op_len Tryd.underlying36 rfl rfl) rfl rfl ?_
  refine J.yg (Wan.is rfl rfl rfl rfl rfl) (op_move rfl rfl) rfl rfl ?_
  refine J.yg (Wan.is rfl rfl rfl rfl rfl) (op_len Tryd.underlying36 rfl rfl) rfl rfl ?_
  refine J.yg (Wan.is rfl rfl rfl rfl rfl) ((op_neq rfl rfl rfl).as (v' := .bool false) (congrArg Value.bool (decide_eq_false (fun h => h rfl)))) rfl rfl ?_
  refine J.y (op_pickF rfl rfl rfl) rfl rfl rfl ?_
  refine J.y (op_move rfl rfl) rfl rfl rfl ?_
  refine J.yg (Wan.is rfl rfl rfl rfl rfl) (op_loadBA 5 rfl rfl rfl Tryd.isAgg107 Tryd.sizeOf107 rfl) rfl rfl ?_
  refine J.yg (Wan.is rfl rfl rfl rfl rfl) (op_move rfl rfl) rfl rfl ?_
  refine J.yg (Wan.is rfl rfl rfl rfl rfl) (op_move rfl rfl) rfl rfl ?_
  refine J.eg (Wan.is rfl rfl rfl rfl rfl) (op_call rfl rfl ent77 (Ct.use0 (fun F' hF => good_ct F' A36 c36 (bsd kv k d (s36 - d)) (hr36.sl.mono (hF m36 (by simp))) (pThere kv k s36) (pKey kv k s36) (pVal kv k s36) k d (by assumption)))) rfl rfl ?_
  intro g69 _
  refine J.yg (Wan.is rfl rfl rfl rfl rfl) (op_not rfl rfl) rfl rfl ?_
  refine J.y (op_pickF rfl rfl rfl) rfl rfl rfl ?_
  refine J.nil ?_
  refine J.then_n (J.k hK12 ?_)
  refine J.keepE [(2, _), (8, _), (9, _), (10, _), (12, _), (13, _), (71, _)] ⟨rfl, rfl, rfl, rfl, rfl, rfl, rfl, trivial⟩ ?_
  refine J.condF rfl rfl ?_
  refine J.skip ?_
  refine J.then_n (J.k hK11 ?_)
  refine J.keepE [(2, _), (8, _), (9, _), (10, _), (12, _), (13, _)] ⟨rfl, rfl, rfl, rfl, rfl, rfl, trivial⟩ ?_
  refine J.seq (fun K13 hK13 => ?_)
  refine J.seq (fun K14 hK14 => ?_)
  refine J.region ?_
  refine J.y (op_assign rfl rfl) rfl rfl rfl ?_
  refine J.nil ?_
  refine J.then_n (J.k hK14 ?_)
  refine J.keepE [(2, _), (8, _), (9, _), (10, _), (12, _), (13, _), (14, _)] ⟨rfl, rfl, rfl, rfl, rfl, rfl, rfl, trivial⟩ ?_
  refine J.block ?_
  refine J.loop (X := Nat) (fun ζ => [(2, I ((d : Nat) : Int)), (8, Ptr g), (9, Str (k)), (10, Ptr g10), (12, .slice A50 ((belR m k d).length) c50), (13, .slice A54 ((bsd kv k d (s36 - d)).length) c54), (14, I ((ζ : Nat) : Int))]) (fun ζ => [F, blk g4 [B8 (b0), B8 (b1)] 96, mr, mo, m36, blk g10 [.slice A36 ((bsd kv k d (s36 - d)).length) c36, .bool (pThere kv k s36), Str (pKey kv k s36), Str (pVal kv k s36)] 107, m50, m54]) (fun ζ => ζ ≤ (bsd kv k d (s36 - d)).length) (fun ζ => (bsd kv k d (s36 - d)).length - ζ) 0 (Nat.zero_le _) ⟨rfl, rfl, rfl, rfl, rfl, rfl, rfl, trivial⟩ (fun _ h => h) ?_
  rintro i hi I0 hI0
  refine J.seq (fun K15 hK15 => ?_)
  refine J.seq (fun K16 hK16 => ?_)
  refine J.region ?_
  refine J.y (op_move rfl rfl) rfl rfl rfl ?_
  refine J.y (op_move rfl rfl) rfl rfl rfl ?_
  refine J.y (op_len Tryd.underlying36 rfl rfl) rfl rfl rfl ?_
  refine J.y (op_lss rfl rfl rfl) rfl rfl rfl ?_
  refine J.nil ?_
  refine J.then_n (J.k hK16 ?_)
  refine J.keepE [(2, _), (8, _), (9, _), (10, _), (12, _), (13, _), (14, _), (75, _)] ⟨rfl, rfl, rfl, rfl, rfl, rfl, rfl, rfl, trivial⟩ ?_
  refine J.ite rfl (fun h75 => ?_) (fun h75 => ?_)
  ·
    refine J.skip ?_
    refine J.then_n (J.k hK15 ?_)
    refine J.keepE [(2, _), (8, _), (9, _), (10, _), (12, _), (13, _), (14, _)] ⟨rfl, rfl, rfl, rfl, rfl, rfl, rfl, trivial⟩ ?_
    refine J.seq (fun K17 hK17 => ?_)
    refine J.block ?_
    refine J.seq (fun K18 hK18 => ?_)
    refine J.draw [F, blk g4 [B8 (b0), B8 (b1)] 96, mr, mo, m36, blk g10 [.slice A36 ((bsd kv k d (s36 - d)).length) c36, .bool (pThere kv k s36), Str (pKey kv k s36), Str (pVal kv k s36)] 107, m50, m54] [] (.y 0 (.y 1 (.y 2 (.y 3 (.y 4 (.y 5 (.y 6 (.y 7 (.y 8 (.y 9 .nil)))))))))) Tryd.wide (by decide +kernel) (by simp) ?_
    refine J.dy rfl (op_fieldAddr (j := 0) rfl rfl Tryd.underlying107 rfl Tryd.sizeOf36 rfl) rfl rfl rfl rfl ?_
    refine J.dy rfl (op_loadB 5 (v := .slice A36 ((bsd kv k d (s36 - d)).length) c36) rfl rfl rfl Tryd.isAgg36 rfl) rfl rfl rfl rfl ?_
    refine J.dy rfl (op_move rfl rfl) rfl rfl rfl rfl ?_
    refine J.dy rfl (op_indexAddr (i := i) rfl rfl rfl Tryd.underlying36 Tryd.sizeOf9 hr36.sl (by first | omega | (simp only [List.length_append, List.length_cons, List.length_nil, List.length_take, List.length_drop] at *; omega))) rfl rfl rfl rfl ?_
    refine J.dy rfl (op_load rfl rfl Tryd.isAgg9 (m := m36) (by simp) (hr36.sl.elem (strsV_get (getSome [] (by first | omega | (simp only [List.length_append, List.length_cons, List.length_nil, List.length_take, List.length_drop] at *; omega)))))) rfl rfl rfl rfl ?_
    refine J.dy rfl (op_move rfl rfl) rfl rfl rfl rfl ?_
    refine J.dy rfl (op_move rfl rfl) rfl rfl rfl rfl ?_
    refine J.dy rfl (op_indexAddr (i := i) rfl rfl rfl Tryd.underlying36 Tryd.sizeOf9 h54.sl (by first | omega | (simp only [List.length_append, List.length_cons, List.length_nil, List.length_take, List.length_drop] at *; omega))) rfl rfl rfl rfl ?_
    refine J.dy rfl (op_load rfl rfl Tryd.isAgg9 (m := m54) (by simp) (h54.sl.elem (strsV_get (getSome [] (by first | omega | (simp only [List.length_append, List.length_cons, List.length_nil, List.length_take, List.length_drop] at *; omega)))))) rfl rfl rfl rfl ?_
    refine J.dy rfl ((op_sne rfl rfl rfl).as (v' := .bool false) (congrArg Value.bool (decide_eq_false (fun h => h rfl)))) rfl rfl rfl rfl ?_
    refine J.dnil ?_
    refine J.then_n (J.k hK18 ?_)
    refine J.keepE [(2, _), (8, _), (9, _), (10, _), (12, _), (13, _), (14, _), (87, _)] ⟨rfl, rfl, rfl, rfl, rfl, rfl, rfl, rfl, trivial⟩ ?_
    refine J.condF rfl rfl ?_
    refine J.skip ?_
    refine J.blk_n ?_
    refine J.then_n (J.k hK17 ?_)
    refine J.keepE [(2, _), (8, _), (9, _), (10, _), (12, _), (13, _), (14, _)] ⟨rfl, rfl, rfl, rfl, rfl, rfl, rfl, trivial⟩ ?_
    refine J.region ?_
    refine J.y (op_move rfl rfl) rfl rfl rfl ?_
    refine J.y ((op_add rfl rfl rfl (by first | omega | (simp only [List.length_append, List.length_cons, List.length_nil, List.length_take, List.length_drop] at *; omega))).as (v' := I ((i + 1 : Nat) : Int)) (congrArg I (by omega))) rfl rfl rfl ?_
    refine J.y (op_assign rfl rfl) rfl rfl rfl ?_
    refine J.nil ?_
    refine J.then_n ?_
    exact J.kk (i + 1) (fun η (hη : _ ∧ (bsd kv k d (s36 - d)).length - η < (bsd kv k d (s36 - d)).length - i) => hI0 η hη.1 hη.2) ⟨(by omega), by first | omega | (dsimp only; omega)⟩ ⟨rfl, rfl, rfl, rfl, rfl, rfl, rfl, trivial⟩ (fun _ h => h)
  ·
    refine J.exit ?_
    refine J.then_x ?_
    refine J.then_x ?_
    refine J.blk_eq ?_
    refine J.then_n (J.k hK13 ?_)
    refine J.keepE [(2, _), (8, _), (9, _), (10, _), (12, _), (13, _)] ⟨rfl, rfl, rfl, rfl, rfl, rfl, trivial⟩ ?_
    refine J.seq (fun K19 hK19 => ?_)
    refine J.region ?_
    refine J.y (op_move rfl rfl) rfl rfl rfl ?_
    refine J.y (op_move rfl rfl) rfl rfl rfl ?_
    refine J.y (op_move rfl rfl) rfl rfl rfl ?_
    refine J.e (op_call rfl rfl ent55 (Ct.use0 (fun F' hF => tNode_ct F' (hK.mono (hF F (by simp))) g kv (ht.at.mono (hF mo (by simp))) (by assumption) k (by first | omega | decide) ((d : Nat) : Int) (by first | assumption | exact wf_zero (by assumption) | exact wf_bel (by assumption) (by assumption))))) rfl rfl rfl ?_
    intro g91 _
    refine J.y (op_assign rfl rfl) rfl rfl rfl ?_
    refine J.nil ?_
    refine J.then_n (J.k hK19 ?_)
    refine J.keepE [(2, _), (9, _), (10, _), (12, _), (13, _), (15, _)] ⟨rfl, rfl, rfl, rfl, rfl, rfl, trivial⟩ ?_
    refine J.seq (fun K20 hK20 => ?_)
    rw [hmd]
    refine J.region ?_
    refine J.y (op_assign rfl rfl) rfl rfl rfl ?_
    refine J.y (op_assign rfl rfl) rfl rfl rfl ?_
    refine J.nil ?_
    refine J.then_n (J.k hK20 ?_)
    refine J.keepE [(2, _), (9, _), (10, _), (12, _), (13, _), (15, _), (16, _), (17, _)] ⟨rfl, rfl, rfl, rfl, rfl, rfl, rfl, rfl, trivial⟩ ?_
    refine J.seq (fun K21 hK21 => ?_)
    refine J.seq (fun K22 hK22 => ?_)
    refine J.region ?_
    refine J.y (op_assign rfl rfl) rfl rfl rfl ?_
    refine J.nil ?_
    refine J.then_n (J.k hK22 ?_)
    refine J.keepE [(2, _), (9, _), (10, _), (12, _), (13, _), (15, _), (16, _), (17, _), (18, _)] ⟨rfl, rfl, rfl, rfl, rfl, rfl, rfl, rfl, rfl, trivial⟩ ?_
    refine J.block ?_
    refine J.loop (X := Nat × List UInt8 × Bool) (fun ζ => [(2, I ((d : Nat) : Int)), (9, Str (k)), (10, Ptr g10), (12, .slice A50 ((belR m k d).length) c50), (13, .slice A54 ((bsd kv k d (s36 - d)).length) c54), (15, Str (Sm.ndB kv k d)), (16, Str (ζ.2.1)), (17, .bool (ζ.2.2)), (18, I ((ζ.1 : Nat) : Int))]) (fun ζ => [F, blk g4 [B8 (b0), B8 (b1)] 96, mr, mo, m36, blk g10 [.slice A36 ((bsd kv k d (s36 - d)).length) c36, .bool (pThere kv k s36), Str (pKey kv k s36), Str (pVal kv k s36)] 107, m50, m54]) (fun ζ => ζ.1 ≤ (belR m k d).length ∧ ζ.2.1 = (Sm.getP (((belR m k d).take ζ.1).map toP) k).getD [] ∧ ζ.2.2 = (Sm.getP (((belR m k d).take ζ.1).map toP) k).isSome) (fun ζ => (belR m k d).length - ζ.1) (0, [], false) (⟨Nat.zero_le _, rfl, rfl⟩) ⟨rfl, rfl, rfl, rfl, rfl, rfl, rfl, rfl, rfl, trivial⟩ (fun _ h => h) ?_
    rintro ⟨j, w, t⟩ ⟨hj, hw, hti⟩ I2 hI2
    dsimp only at hj hw hti ⊢
    refine J.seq (fun K23 hK23 => ?_)
    refine J.seq (fun K24 hK24 => ?_)
    refine J.region ?_
    refine J.y (op_move rfl rfl) rfl rfl rfl ?_
    refine J.y (op_move rfl rfl) rfl rfl rfl ?_
    refine J.y (op_len Tryd.underlying75 rfl rfl) rfl rfl rfl ?_
    refine J.y (op_lss rfl rfl rfl) rfl rfl rfl ?_
    refine J.nil ?_
    refine J.then_n (J.k hK24 ?_)
    refine J.keepE [(2, _), (9, _), (10, _), (12, _), (13, _), (15, _), (16, _), (17, _), (18, _), (95, _)] ⟨rfl, rfl, rfl, rfl, rfl, rfl, rfl, rfl, rfl, rfl, trivial⟩ ?_
    refine J.ite rfl (fun h95 => ?_) (fun h95 => ?_)
    ·
      refine J.skip ?_
      refine J.then_n (J.k hK23 ?_)
      refine J.keepE [(2, _), (9, _), (10, _), (12, _), (13, _), (15, _), (16, _), (17, _), (18, _)] ⟨rfl, rfl, rfl, rfl, rfl, rfl, rfl, rfl, rfl, trivial⟩ ?_
      refine J.seq (fun K25 hK25 => ?_)
      refine J.block ?_
      refine J.seq (fun K26 hK26 => ?_)
      refine J.region ?_
      refine J.y (op_move rfl rfl) rfl rfl rfl ?_
      refine J.y (op_move rfl rfl) rfl rfl rfl ?_
      refine J.y (op_indexAddr (i := j) rfl rfl rfl Tryd.underlying75 Tryd.sizeOf84 h50.sl (by first | omega | (simp only [List.length_append, List.length_cons, List.length_nil, List.length_take, List.length_drop] at *; omega))) rfl rfl rfl ?_
      refine J.y (op_fieldAddrE (off := 0) rfl rfl Tryd.underlying84 rfl Tryd.sizeOf9 h50.sl (by first | omega | (simp only [List.length_append, List.length_cons, List.length_nil, List.length_take, List.length_drop] at *; omega)) rfl) rfl rfl rfl ?_
      refine J.y (op_load (v := Str (((belR m k d).getD j noPr).k)) rfl rfl Tryd.isAgg9 (m := m50) (by simp) (h50.sl.part (prsV_get (by first | omega | (simp only [List.length_append, List.length_cons, List.length_nil, List.length_take, List.length_drop] at *; omega))) 0 1)) rfl rfl rfl ?_
      refine J.y (op_move rfl rfl) rfl rfl rfl ?_
      refine J.y (op_seq rfl rfl rfl) rfl rfl rfl ?_
      refine J.nil ?_
      refine J.then_n (J.k hK26 ?_)
      refine J.keepE [(2, _), (9, _), (10, _), (12, _), (13, _), (15, _), (16, _), (17, _), (18, _), (104, _)] ⟨rfl, rfl, rfl, rfl, rfl, rfl, rfl, rfl, rfl, rfl, trivial⟩ ?_
      refine J.ite rfl (fun h104 => ?_) (fun h104 => ?_)
      ·
        have hlk := look_take2 (hp.onceB k d) (j := j) (by omega) k
        rw [if_pos h104] at hlk
        refine J.region ?_
        refine J.y (op_move rfl rfl) rfl rfl rfl ?_
        refine J.y (op_move rfl rfl) rfl rfl rfl ?_
        refine J.y (op_indexAddr (i := j) rfl rfl rfl Tryd.underlying75 Tryd.sizeOf84 h50.sl (by first | omega | (simp only [List.length_append, List.length_cons, List.length_nil, List.length_take, List.length_drop] at *; omega))) rfl rfl rfl ?_
        refine J.y (op_fieldAddrE (off := 1) rfl rfl Tryd.underlying84 rfl Tryd.sizeOf9 h50.sl (by first | omega | (simp only [List.length_append, List.length_cons, List.length_nil, List.length_take, List.length_drop] at *; omega)) rfl) rfl rfl rfl ?_
        refine J.y (op_load (v := Str (((belR m k d).getD j noPr).v)) rfl rfl Tryd.isAgg9 (m := m50) (by simp) (h50.sl.part (prsV_get (by first | omega | (simp only [List.length_append, List.length_cons, List.length_nil, List.length_take, List.length_drop] at *; omega))) 1 1)) rfl rfl rfl ?_
        refine J.y (op_assign rfl rfl) rfl rfl rfl ?_
        refine J.y (op_assign rfl rfl) rfl rfl rfl ?_
        refine J.nil ?_
        refine J.blk_n ?_
        refine J.then_n (J.k hK25 ?_)
        refine J.keepE [(2, _), (9, _), (10, _), (12, _), (13, _), (15, _), (16, _), (17, _), (18, _)] ⟨rfl, rfl, rfl, rfl, rfl, rfl, rfl, rfl, rfl, trivial⟩ ?_
        refine J.region ?_
        refine J.y (op_move rfl rfl) rfl rfl rfl ?_
        refine J.y ((op_add rfl rfl rfl (by first | omega | (simp only [List.length_append, List.length_cons, List.length_nil, List.length_take, List.length_drop] at *; omega))).as (v' := I ((j + 1 : Nat) : Int)) (congrArg I (by omega))) rfl rfl rfl ?_
        refine J.y (op_assign rfl rfl) rfl rfl rfl ?_
        refine J.nil ?_
        refine J.then_n ?_
        exact J.kk (j + 1, ((belR m k d).getD j noPr).v, true) (fun η (hη : _ ∧ (belR m k d).length - η.1 < (belR m k d).length - j) => hI2 η hη.1 hη.2) ⟨⟨by dsimp only; omega, by dsimp only; rw [hlk]; rfl, by dsimp only; rw [hlk]; rfl⟩, by first | omega | (dsimp only; omega)⟩ ⟨rfl, rfl, rfl, rfl, rfl, rfl, rfl, rfl, rfl, trivial⟩ (fun _ h => h)
      ·
        have hlk := look_take2 (hp.onceB k d) (j := j) (by omega) k
        rw [if_neg h104] at hlk
        refine J.skip ?_
        refine J.blk_n ?_
        refine J.then_n (J.k hK25 ?_)
        refine J.keepE [(2, _), (9, _), (10, _), (12, _), (13, _), (15, _), (16, _), (17, _), (18, _)] ⟨rfl, rfl, rfl, rfl, rfl, rfl, rfl, rfl, rfl, trivial⟩ ?_
        refine J.region ?_
        refine J.y (op_move rfl rfl) rfl rfl rfl ?_
        refine J.y ((op_add rfl rfl rfl (by first | omega | (simp only [List.length_append, List.length_cons, List.length_nil, List.length_take, List.length_drop] at *; omega))).as (v' := I ((j + 1 : Nat) : Int)) (congrArg I (by omega))) rfl rfl rfl ?_
        refine J.y (op_assign rfl rfl) rfl rfl rfl ?_
        refine J.nil ?_
        refine J.then_n ?_
        exact J.kk (j + 1, w, t) (fun η (hη : _ ∧ (belR m k d).length - η.1 < (belR m k d).length - j) => hI2 η hη.1 hη.2) ⟨⟨by dsimp only; omega, by dsimp only; rw [hlk]; exact hw, by dsimp only; rw [hlk]; exact hti⟩, by first | omega | (dsimp only; omega)⟩ ⟨rfl, rfl, rfl, rfl, rfl, rfl, rfl, rfl, rfl, trivial⟩ (fun _ h => h)
    ·
      refine J.exit ?_
      refine J.then_x ?_
      refine J.then_x ?_
      refine J.blk_eq ?_
      refine J.then_n (J.k hK21 ?_)
      refine J.keepE [(2, _), (9, _), (10, _), (12, _), (13, _), (15, _), (16, _), (17, _)] ⟨rfl, rfl, rfl, rfl, rfl, rfl, rfl, rfl, trivial⟩ ?_
      refine J.seq (fun K27 hK27 => ?_)
      obtain rfl : j = (belR m k d).length := by omega
      rw [List.take_length, hp.getB] at hw hti
      have hkb : ∀ i : Nat, ((belR m k d).getD i noPr).k.length ≤ 1000000 := belR_klen hkm k d
      have hwl : w.length ≤ 1000000 := by rw [hw]; exact getP_small hfi.small k
      refine J.region ?_
      refine J.y (op_move rfl rfl) rfl rfl rfl ?_
      refine J.y (op_move rfl rfl) rfl rfl rfl ?_
      refine J.y (op_move rfl rfl) rfl rfl rfl ?_
      refine J.y (op_move rfl rfl) rfl rfl rfl ?_
      refine J.y (op_len Tryd.underlying36 rfl rfl) rfl rfl rfl ?_
      refine J.y ((op_add rfl rfl rfl (by first | omega | (simp only [List.length_append, List.length_cons, List.length_nil, List.length_take, List.length_drop] at *; omega))).as (v' := I ((d + ((bsd kv k d (s36 - d)).length) : Nat) : Int)) (congrArg I (by omega))) rfl rfl rfl ?_
      refine J.e (op_call rfl rfl ent75 (Ct.use (new := fun x : Option Addr × Nat × Hp => [x.2.2]) (fun F' hF => starts_ct F' A50 ((belR m k d).length) c50 (belR m k d) (h50.sl.mono (hF m50 (by simp))) (by omega) (by assumption) k (by omega) (d + ((bsd kv k d (s36 - d)).length)) (by omega)))) rfl rfl rfl ?_
      rintro ⟨A116, c116, m116⟩ h116
      try dsimp only at h116
      change J _ ((116, .slice A116 (belR (belR m k d) k (d + ((bsd kv k d (s36 - d)).length))).length c116) :: _) _ [F, blk g4 [B8 (b0), B8 (b1)] 96, mr, mo, m36, blk g10 [.slice A36 ((bsd kv k d (s36 - d)).length) c36, .bool (pThere kv k s36), Str (pKey kv k s36), Str (pVal kv k s36)] 107, m50, m54, m116] _
      refine J.y (op_assign rfl rfl) rfl rfl rfl ?_
      refine J.nil ?_
      refine J.then_n (J.k hK27 ?_)
      refine J.keepE [(2, _), (9, _), (10, _), (15, _), (16, _), (17, _), (19, _)] ⟨rfl, rfl, rfl, rfl, rfl, rfl, rfl, trivial⟩ ?_
      refine J.seq (fun K28 hK28 => ?_)
      refine J.seq (fun K29 hK29 => ?_)
      have hse : d + (bsd kv k d (s36 - d)).length = s36 := by omega
      rw [hse, belR_belR m k hq2] at h116 ⊢
      obtain ⟨hr1, hr2, hr3⟩ := hp.rest hst36
      refine J.draw [F, blk g4 [B8 (b0), B8 (b1)] 96, mr, mo, m36, blk g10 [.slice A36 ((bsd kv k d (s36 - d)).length) c36, .bool (pThere kv k s36), Str (pKey kv k s36), Str (pVal kv k s36)] 107, m50, m54, m116] [] (.y 0 (.y 1 (.y 2 (.y 3 (.y 4 (.y 5 (.y 6 (.y 7 (.y 8 (.y 9 (.y 10 (.y 11 (.y 12 (.y 13 (.y 14 (.y 15 (.y 16 (.y 17 (.y 18 (.y 19 (.y 20 (.y 21 (.y 22 (.y 23 (.y 24 (.y 25 (.y 26 (.y 27 (.y 28 (.y 29 (.y 30 (.y 31 (.y 32 .nil))))))))))))))))))))))))))))))))) Tryd.wide (by decide +kernel) (by simp) ?_
      refine J.dy rfl (op_fieldAddr (j := 1) rfl rfl Tryd.underlying107 rfl Tryd.sizeOf4 rfl) rfl rfl rfl rfl ?_
      refine J.dy rfl (op_loadB 5 (v := .bool (pThere kv k s36)) rfl rfl rfl Tryd.isAgg4 rfl) rfl rfl rfl rfl ?_
      refine J.dy rfl (op_move rfl rfl) rfl rfl rfl rfl ?_
      refine J.dy rfl (op_len Tryd.underlying75 rfl rfl) rfl rfl rfl rfl ?_
      refine J.dy rfl (op_gtr rfl rfl rfl) rfl rfl rfl rfl ?_
      refine J.dy rfl ((op_neqB Tryd.underlying4 rfl rfl rfl).as (v' := .bool false) (by rw [hr2]; first | (simp; done) | (simp; omega) | (congr 1; simp))) rfl rfl rfl rfl ?_
      refine J.dy rfl (op_move rfl rfl) rfl rfl rfl rfl ?_
      refine J.dyg rfl (op_move rfl rfl) (Wan.is rfl rfl rfl rfl rfl) rfl rfl rfl ?_
      refine J.dyg rfl (op_len Tryd.underlying75 rfl rfl) (Wan.is rfl rfl rfl rfl rfl) rfl rfl rfl ?_
      refine J.dyg rfl ((op_gtr rfl rfl rfl).as (v' := .bool false) (congrArg Value.bool (decide_eq_false (by omega)))) (Wan.is rfl rfl rfl rfl rfl) rfl rfl rfl ?_
      refine J.dy rfl (op_pickF rfl rfl rfl) rfl rfl rfl rfl ?_
      refine J.dy rfl (op_move rfl rfl) rfl rfl rfl rfl ?_
      refine J.dyg rfl (op_fieldAddr (j := 1) rfl rfl Tryd.underlying107 rfl Tryd.sizeOf4 rfl) (Wan.is rfl rfl rfl rfl rfl) rfl rfl rfl ?_
      refine J.dyg rfl (op_loadB 5 (v := .bool (pThere kv k s36)) rfl rfl rfl Tryd.isAgg4 rfl) (Wan.is rfl rfl rfl rfl rfl) rfl rfl rfl ?_
      refine J.dyg rfl (op_move rfl rfl) (Wan.is rfl rfl rfl rfl rfl) rfl rfl rfl ?_
      refine J.splitB (d := 131) rfl (fun h131 => ?_) (fun h131 => ?_)
      ·
        refine J.dyg rfl (op_fieldAddr (j := 2) rfl rfl Tryd.underlying107 rfl Tryd.sizeOf9 rfl) (Wan.is rfl rfl rfl rfl rfl) rfl rfl rfl ?_
        refine J.dyg rfl (op_loadB 5 (v := Str (pKey kv k s36)) rfl rfl rfl Tryd.isAgg9 rfl) (Wan.is rfl rfl rfl rfl rfl) rfl rfl rfl ?_
        refine J.dyg rfl (op_move rfl rfl) (Wan.is rfl rfl rfl rfl rfl) rfl rfl rfl ?_
        have hr4 : 0 < (belR m k s36).length := by
          have h5 := hr2
          rw [show pThere kv k s36 = true from h131] at h5
          exact of_decide_eq_true h5.symm
        refine J.dyg rfl (op_indexAddr (i := 0) rfl rfl rfl Tryd.underlying75 Tryd.sizeOf84 h116.sl (by first | omega | (simp only [List.length_append, List.length_cons, List.length_nil, List.length_take, List.length_drop] at *; omega))) (Wan.is rfl rfl rfl rfl rfl) rfl rfl rfl ?_
        refine J.dyg rfl (op_fieldAddrE (off := 0) rfl rfl Tryd.underlying84 rfl Tryd.sizeOf9 h116.sl (by first | omega | (simp only [List.length_append, List.length_cons, List.length_nil, List.length_take, List.length_drop] at *; omega)) rfl) (Wan.is rfl rfl rfl rfl rfl) rfl rfl rfl ?_
        refine J.dyg rfl (op_load (v := Str (((belR m k s36).getD 0 noPr).k)) rfl rfl Tryd.isAgg9 (m := m116) (by simp) (h116.sl.part (prsV_get (by first | omega | (simp only [List.length_append, List.length_cons, List.length_nil, List.length_take, List.length_drop] at *; omega))) 0 1)) (Wan.is rfl rfl rfl rfl rfl) rfl rfl rfl ?_
        refine J.dyg rfl ((op_sne rfl rfl rfl).as (v' := .bool false) (congrArg Value.bool (decide_eq_false (by rw [(hr3 h131).1]; exact fun h => h rfl)))) (Wan.is rfl rfl rfl rfl rfl) rfl rfl rfl ?_
        refine J.dyg rfl (op_move rfl rfl) (Wan.is rfl rfl rfl rfl rfl) rfl rfl rfl ?_
        refine J.dyg rfl (op_fieldAddr (j := 3) rfl rfl Tryd.underlying107 rfl Tryd.sizeOf9 rfl) (Wan.is rfl rfl rfl rfl rfl) rfl rfl rfl ?_
        refine J.dyg rfl (op_loadB 5 (v := Str (pVal kv k s36)) rfl rfl rfl Tryd.isAgg9 rfl) (Wan.is rfl rfl rfl rfl rfl) rfl rfl rfl ?_
        refine J.dyg rfl (op_move rfl rfl) (Wan.is rfl rfl rfl rfl rfl) rfl rfl rfl ?_
        refine J.dyg rfl (op_indexAddr (i := 0) rfl rfl rfl Tryd.underlying75 Tryd.sizeOf84 h116.sl (by first | omega | (simp only [List.length_append, List.length_cons, List.length_nil, List.length_take, List.length_drop] at *; omega))) (Wan.is rfl rfl rfl rfl rfl) rfl rfl rfl ?_
        refine J.dyg rfl (op_fieldAddrE (off := 1) rfl rfl Tryd.underlying84 rfl Tryd.sizeOf9 h116.sl (by first | omega | (simp only [List.length_append, List.length_cons, List.length_nil, List.length_take, List.length_drop] at *; omega)) rfl) (Wan.is rfl rfl rfl rfl rfl) rfl rfl rfl ?_
        refine J.dyg rfl (op_load (v := Str (((belR m k s36).getD 0 noPr).v)) rfl rfl Tryd.isAgg9 (m := m116) (by simp) (h116.sl.part (prsV_get (by first | omega | (simp only [List.length_append, List.length_cons, List.length_nil, List.length_take, List.length_drop] at *; omega))) 1 1)) (Wan.is rfl rfl rfl rfl rfl) rfl rfl rfl ?_
        refine J.dyg rfl ((op_sne rfl rfl rfl).as (v' := .bool false) (congrArg Value.bool (decide_eq_false (by rw [(hr3 h131).2]; exact fun h => h rfl)))) (Wan.is rfl rfl rfl rfl rfl) rfl rfl rfl ?_
        refine J.dyg rfl (op_pickF rfl rfl rfl) (Wan.is rfl rfl rfl rfl rfl) rfl rfl rfl ?_
        refine J.dyg rfl (op_pickT rfl rfl rfl) (Wan.is rfl rfl rfl rfl rfl) rfl rfl rfl ?_
        refine J.dy rfl (op_pickF rfl rfl rfl) rfl rfl rfl rfl ?_
        refine J.dnil ?_
        refine J.then_n (J.k hK29 ?_)
        refine J.keepE [(2, _), (9, _), (10, _), (15, _), (16, _), (17, _), (149, _)] ⟨rfl, rfl, rfl, rfl, rfl, rfl, rfl, trivial⟩ ?_
        refine J.condF rfl rfl ?_
        refine J.skip ?_
        refine J.then_n (J.k hK28 ?_)
        refine J.keepE [(2, _), (9, _), (10, _), (15, _), (16, _), (17, _)] ⟨rfl, rfl, rfl, rfl, rfl, rfl, trivial⟩ ?_
        refine J.seq (fun K30 hK30 => ?_)
        refine J.region ?_
        refine J.y (op_loadBA 5 rfl rfl rfl Tryd.isAgg107 Tryd.sizeOf107 rfl) rfl rfl rfl ?_
        refine J.y (op_move rfl rfl) rfl rfl rfl ?_
        refine J.y (op_move rfl rfl) rfl rfl rfl ?_
        refine J.e (op_call rfl rfl ent78 (Ct.use0 (fun F' hF => pNode_ct F' (hK.mono (hF F (by simp))) A36 c36 (bsd kv k d (s36 - d)) (hr36.sl.mono (hF m36 (by simp))) (pThere kv k s36) (pKey kv k s36) (pVal kv k s36) k d (by assumption) (by assumption)))) rfl rfl rfl ?_
        intro g153 _
        refine J.y (op_move rfl rfl) rfl rfl rfl ?_
        refine J.y ((op_seq rfl rfl rfl).as (v' := .bool true) (congrArg Value.bool (decide_eq_true (prove_node hfi hk16 hst36)))) rfl rfl rfl ?_
        refine J.y (op_move rfl rfl) rfl rfl rfl ?_
        refine J.yg (Wan.is rfl rfl rfl rfl rfl) (op_loadBA 5 rfl rfl rfl Tryd.isAgg107 Tryd.sizeOf107 rfl) rfl rfl ?_
        refine J.yg (Wan.is rfl rfl rfl rfl rfl) (op_move rfl rfl) rfl rfl ?_
        refine J.yg (Wan.is rfl rfl rfl rfl rfl) (op_move rfl rfl) rfl rfl ?_
        refine J.yg (Wan.is rfl rfl rfl rfl rfl) (op_move rfl rfl) rfl rfl ?_
        refine J.yg (Wan.is rfl rfl rfl rfl rfl) (op_move rfl rfl) rfl rfl ?_
        refine J.eg (Wan.is rfl rfl rfl rfl rfl) (op_call rfl rfl ent79 (Ct.use0 (fun F' hF => has14_ct F' (hK.mono (hF F (by simp))) A36 c36 (bsd kv k d (s36 - d)) (hr36.sl.mono (hF m36 (by simp))) (pThere kv k s36) (pKey kv k s36) (pVal kv k s36) k d (by assumption) (Sm.ndB kv k d) w (by assumption)))) rfl rfl ?_
        intro g162 _
        refine J.yg (Wan.is rfl rfl rfl rfl rfl) (op_move rfl rfl) rfl rfl ?_
        refine J.yg (Wan.is rfl rfl rfl rfl rfl) ((op_eqlB Tryd.underlying4 rfl rfl rfl).as (v' := .bool true) (by rw [hw, hti, prove_has hfi hk16 hst36]; simp)) rfl rfl ?_
        refine J.y (op_pickT rfl rfl rfl) rfl rfl rfl ?_
        refine J.y (op_move rfl rfl) rfl rfl rfl ?_
        refine J.yg (Wan.is rfl rfl rfl rfl rfl) (op_loadBA 5 rfl rfl rfl Tryd.isAgg107 Tryd.sizeOf107 rfl) rfl rfl ?_
        refine J.yg (Wan.is rfl rfl rfl rfl rfl) (op_move rfl rfl) rfl rfl ?_
        refine J.yg (Wan.is rfl rfl rfl rfl rfl) (op_move rfl rfl) rfl rfl ?_
        refine J.yg (Wan.is rfl rfl rfl rfl rfl) (op_move rfl rfl) rfl rfl ?_
        refine J.eg (Wan.is rfl rfl rfl rfl rfl) (op_call rfl rfl ent80 (Ct.use0 (fun F' hF => lacks14_ct F' (hK.mono (hF F (by simp))) A36 c36 (bsd kv k d (s36 - d)) (hr36.sl.mono (hF m36 (by simp))) (pThere kv k s36) (pKey kv k s36) (pVal kv k s36) k d (by assumption) (Sm.ndB kv k d) (by assumption)))) rfl rfl ?_
        intro g171 _
        refine J.yg (Wan.is rfl rfl rfl rfl rfl) (op_move rfl rfl) rfl rfl ?_
        refine J.yg (Wan.is rfl rfl rfl rfl rfl) (op_not rfl rfl) rfl rfl ?_
        refine J.yg (Wan.is rfl rfl rfl rfl rfl) ((op_eqlB Tryd.underlying4 rfl rfl rfl).as (v' := .bool true) (by rw [hti, prove_lacks hfi hk16 hst36]; simp)) rfl rfl ?_
        refine J.y (op_pickT rfl rfl rfl) rfl rfl rfl ?_
        refine J.y (op_move rfl rfl) rfl rfl rfl ?_
        refine J.yg (Wan.is rfl rfl rfl rfl rfl) (op_loadBA 5 rfl rfl rfl Tryd.isAgg107 Tryd.sizeOf107 rfl) rfl rfl ?_
        refine J.yg (Wan.is rfl rfl rfl rfl rfl) (op_move rfl rfl) rfl rfl ?_
        refine J.yg (Wan.is rfl rfl rfl rfl rfl) (op_move rfl rfl) rfl rfl ?_
        refine J.yg (Wan.is rfl rfl rfl rfl rfl) (op_move rfl rfl) rfl rfl ?_
        refine J.yg (Wan.is rfl rfl rfl rfl rfl) (op_sadd (a := w) (b := [120]) rfl rfl rfl (by first | omega | (simp only [List.length_append, List.length_cons, List.length_nil, List.length_take, List.length_drop] at *; omega))) rfl rfl ?_
        refine J.yg (Wan.is rfl rfl rfl rfl rfl) (op_move rfl rfl) rfl rfl ?_
        refine J.eg (Wan.is rfl rfl rfl rfl rfl) (op_call rfl rfl ent79 (Ct.use0 (fun F' hF => has14_ct F' (hK.mono (hF F (by simp))) A36 c36 (bsd kv k d (s36 - d)) (hr36.sl.mono (hF m36 (by simp))) (pThere kv k s36) (pKey kv k s36) (pVal kv k s36) k d (by assumption) (Sm.ndB kv k d) (w ++ ([120])) (by assumption)))) rfl rfl ?_
        intro g183 _
        refine J.yg (Wan.is rfl rfl rfl rfl rfl) ((op_not rfl rfl).as (v' := .bool true) (by rw [prove_hasno hfi hk16 hst36 (by rw [← hw]; exact fun e => by have := congrArg List.length e; simp at this)]; rfl)) rfl rfl ?_
        refine J.y (op_pickT rfl rfl rfl) rfl rfl rfl ?_
        refine J.y (op_assign rfl rfl) rfl rfl rfl ?_
        refine J.nil ?_
        refine J.then_n (J.k hK30 ?_)
        refine J.keepE [(6, _)] ⟨rfl, trivial⟩ ?_
        refine J.ret ?_
        exact J.done hw0 (fun _ _ h => h) (res1 rfl rfl) (retOk () rfl trivial [0] rfl (by decide))
      ·
        refine J.dno rfl (Wan.is rfl rfl rfl rfl rfl) rfl rfl ?_
        refine J.dno rfl (Wan.is rfl rfl rfl rfl rfl) rfl rfl ?_
        refine J.dno rfl (Wan.is rfl rfl rfl rfl rfl) rfl rfl ?_
        refine J.dno rfl (Wan.is rfl rfl rfl rfl rfl) rfl rfl ?_
        refine J.dno rfl (Wan.is rfl rfl rfl rfl rfl) rfl rfl ?_
        refine J.dno rfl (Wan.is rfl rfl rfl rfl rfl) rfl rfl ?_
        refine J.dno rfl (Wan.is rfl rfl rfl rfl rfl) rfl rfl ?_
        refine J.dno rfl (Wan.is rfl rfl rfl rfl rfl) rfl rfl ?_
        refine J.dno rfl (Wan.un rfl rfl rfl rfl) rfl rfl ?_
        refine J.dno rfl (Wan.un rfl rfl rfl rfl) rfl rfl ?_
        refine J.dno rfl (Wan.un rfl rfl rfl rfl) rfl rfl ?_
        refine J.dno rfl (Wan.un rfl rfl rfl rfl) rfl rfl ?_
        refine J.dno rfl (Wan.un rfl rfl rfl rfl) rfl rfl ?_
        refine J.dno rfl (Wan.un rfl rfl rfl rfl) rfl rfl ?_
        refine J.dno rfl (Wan.un rfl rfl rfl rfl) rfl rfl ?_
        refine J.dno rfl (Wan.is rfl rfl rfl rfl rfl) rfl rfl ?_
        refine J.dyg rfl (op_pickF rfl rfl rfl) (Wan.is rfl rfl rfl rfl rfl) rfl rfl rfl ?_
        refine J.dy rfl (op_pickF rfl rfl rfl) rfl rfl rfl rfl ?_
        refine J.dnil ?_
        refine J.then_n (J.k hK29 ?_)
        refine J.keepE [(2, _), (9, _), (10, _), (15, _), (16, _), (17, _), (149, _)] ⟨rfl, rfl, rfl, rfl, rfl, rfl, rfl, trivial⟩ ?_
        refine J.condF rfl rfl ?_
        refine J.skip ?_
        refine J.then_n (J.k hK28 ?_)
        refine J.keepE [(2, _), (9, _), (10, _), (15, _), (16, _), (17, _)] ⟨rfl, rfl, rfl, rfl, rfl, rfl, trivial⟩ ?_
        refine J.seq (fun K31 hK31 => ?_)
        refine J.region ?_
        refine J.y (op_loadBA 5 rfl rfl rfl Tryd.isAgg107 Tryd.sizeOf107 rfl) rfl rfl rfl ?_
        refine J.y (op_move rfl rfl) rfl rfl rfl ?_
        refine J.y (op_move rfl rfl) rfl rfl rfl ?_
        refine J.e (op_call rfl rfl ent78 (Ct.use0 (fun F' hF => pNode_ct F' (hK.mono (hF F (by simp))) A36 c36 (bsd kv k d (s36 - d)) (hr36.sl.mono (hF m36 (by simp))) (pThere kv k s36) (pKey kv k s36) (pVal kv k s36) k d (by assumption) (by assumption)))) rfl rfl rfl ?_
        intro g153 _
        refine J.y (op_move rfl rfl) rfl rfl rfl ?_
        refine J.y ((op_seq rfl rfl rfl).as (v' := .bool true) (congrArg Value.bool (decide_eq_true (prove_node hfi hk16 hst36)))) rfl rfl rfl ?_
        refine J.y (op_move rfl rfl) rfl rfl rfl ?_
        refine J.yg (Wan.is rfl rfl rfl rfl rfl) (op_loadBA 5 rfl rfl rfl Tryd.isAgg107 Tryd.sizeOf107 rfl) rfl rfl ?_
        refine J.yg (Wan.is rfl rfl rfl rfl rfl) (op_move rfl rfl) rfl rfl ?_
        refine J.yg (Wan.is rfl rfl rfl rfl rfl) (op_move rfl rfl) rfl rfl ?_
        refine J.yg (Wan.is rfl rfl rfl rfl rfl) (op_move rfl rfl) rfl rfl ?_
        refine J.yg (Wan.is rfl rfl rfl rfl rfl) (op_move rfl rfl) rfl rfl ?_
        refine J.eg (Wan.is rfl rfl rfl rfl rfl) (op_call rfl rfl ent79 (Ct.use0 (fun F' hF => has14_ct F' (hK.mono (hF F (by simp))) A36 c36 (bsd kv k d (s36 - d)) (hr36.sl.mono (hF m36 (by simp))) (pThere kv k s36) (pKey kv k s36) (pVal kv k s36) k d (by assumption) (Sm.ndB kv k d) w (by assumption)))) rfl rfl ?_
        intro g162 _
        refine J.yg (Wan.is rfl rfl rfl rfl rfl) (op_move rfl rfl) rfl rfl ?_
        refine J.yg (Wan.is rfl rfl rfl rfl rfl) ((op_eqlB Tryd.underlying4 rfl rfl rfl).as (v' := .bool true) (by rw [hw, hti, prove_has hfi hk16 hst36]; simp)) rfl rfl ?_
        refine J.y (op_pickT rfl rfl rfl) rfl rfl rfl ?_
        refine J.y (op_move rfl rfl) rfl rfl rfl ?_
        refine J.yg (Wan.is rfl rfl rfl rfl rfl) (op_loadBA 5 rfl rfl rfl Tryd.isAgg107 Tryd.sizeOf107 rfl) rfl rfl ?_
        refine J.yg (Wan.is rfl rfl rfl rfl rfl) (op_move rfl rfl) rfl rfl ?_
        refine J.yg (Wan.is rfl rfl rfl rfl rfl) (op_move rfl rfl) rfl rfl ?_
        refine J.yg (Wan.is rfl rfl rfl rfl rfl) (op_move rfl rfl) rfl rfl ?_
        refine J.eg (Wan.is rfl rfl rfl rfl rfl) (op_call rfl rfl ent80 (Ct.use0 (fun F' hF => lacks14_ct F' (hK.mono (hF F (by simp))) A36 c36 (bsd kv k d (s36 - d)) (hr36.sl.mono (hF m36 (by simp))) (pThere kv k s36) (pKey kv k s36) (pVal kv k s36) k d (by assumption) (Sm.ndB kv k d) (by assumption)))) rfl rfl ?_
        intro g171 _
        refine J.yg (Wan.is rfl rfl rfl rfl rfl) (op_move rfl rfl) rfl rfl ?_
        refine J.yg (Wan.is rfl rfl rfl rfl rfl) (op_not rfl rfl) rfl rfl ?_
        refine J.yg (Wan.is rfl rfl rfl rfl rfl) ((op_eqlB Tryd.underlying4 rfl rfl rfl).as (v' := .bool true) (by rw [hti, prove_lacks hfi hk16 hst36]; simp)) rfl rfl ?_
        refine J.y (op_pickT rfl rfl rfl) rfl rfl rfl ?_
        refine J.y (op_move rfl rfl) rfl rfl rfl ?_
        refine J.yg (Wan.is rfl rfl rfl rfl rfl) (op_loadBA 5 rfl rfl rfl Tryd.isAgg107 Tryd.sizeOf107 rfl) rfl rfl ?_
        refine J.yg (Wan.is rfl rfl rfl rfl rfl) (op_move rfl rfl) rfl rfl ?_
        refine J.yg (Wan.is rfl rfl rfl rfl rfl) (op_move rfl rfl) rfl rfl ?_
        refine J.yg (Wan.is rfl rfl rfl rfl rfl) (op_move rfl rfl) rfl rfl ?_
        refine J.yg (Wan.is rfl rfl rfl rfl rfl) (op_sadd (a := w) (b := [120]) rfl rfl rfl (by first | omega | (simp only [List.length_append, List.length_cons, List.length_nil, List.length_take, List.length_drop] at *; omega))) rfl rfl ?_
        refine J.yg (Wan.is rfl rfl rfl rfl rfl) (op_move rfl rfl) rfl rfl ?_
        refine J.eg (Wan.is rfl rfl rfl rfl rfl) (op_call rfl rfl ent79 (Ct.use0 (fun F' hF => has14_ct F' (hK.mono (hF F (by simp))) A36 c36 (bsd kv k d (s36 - d)) (hr36.sl.mono (hF m36 (by simp))) (pThere kv k s36) (pKey kv k s36) (pVal kv k s36) k d (by assumption) (Sm.ndB kv k d) (w ++ ([120])) (by assumption)))) rfl rfl ?_
        intro g183 _
        refine J.yg (Wan.is rfl rfl rfl rfl rfl) ((op_not rfl rfl).as (v' := .bool true) (by rw [prove_hasno hfi hk16 hst36 (by rw [← hw]; exact fun e => by have := congrArg List.length e; simp at this)]; rfl)) rfl rfl ?_
        refine J.y (op_pickT rfl rfl rfl) rfl rfl rfl ?_
        refine J.y (op_assign rfl rfl) rfl rfl rfl ?_
        refine J.nil ?_
        refine J.then_n (J.k hK31 ?_)
        refine J.keepE [(6, _)] ⟨rfl, trivial⟩ ?_
        refine J.ret ?_
        exact J.done hw0 (fun _ _ h => h) (res1 rfl rfl) (retOk () rfl trivial [0] rfl (by decide))

theorem proofTells_ct (F : Hp) (hK : Cells F ⟨4, 0, none⟩ (Sha.K.map W32)) (A0 : Option Addr) (n0 c0 : Nat) (l0 : List Pz) (sl0 : Sl F 3 A0 n0 c0 (putzV l0)) (b0 b1 : UInt8) (z : Int) : Ct Tryd.prog 13 [.slice A0 n0 c0, .agg #[B8 b0, B8 b1], I z] [F] (fun _ : Unit => .bool true) (fun _ => True) (fun _ => [F]) := by
  by_cases h : z < 0 ∨ 128 < z
  · exact proofTells_no F hK A0 n0 c0 l0 sl0 b0 b1 z h
  · obtain ⟨d, rfl⟩ := Int.eq_ofNat_of_zero_le (show 0 ≤ z by omega)
    exact proofTells_ok F hK A0 n0 c0 l0 sl0 b0 b1 d (by omega)

end Go.Proofs.YtpcffgkmpmcobaaDoor
