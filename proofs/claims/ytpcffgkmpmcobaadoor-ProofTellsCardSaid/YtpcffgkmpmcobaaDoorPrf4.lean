/- A part of the proof: contracts of functions of the program, each for every state of the heaps that it names. -/
import Derived.Test.YtpcffgkmpmcobaaDoorPrf3
import Derived.Test.YtpcffgkmpmcobaaDoorFwR
set_option linter.unusedSimpArgs false
set_option linter.unusedVariables false
namespace Go.Proofs.YtpcffgkmpmcobaaDoor
open Go Go.Fw
set_option maxRecDepth 100000
set_option maxHeartbeats 1000000
theorem ent71 : Enters Tryd.prog 71 := Enters.of Tryd.func71 rfl (by kernel_rfl)
theorem ent72 : Enters Tryd.prog 72 := Enters.of Tryd.func72 rfl (by kernel_rfl)

theorem proofBands_ct (F : Hp) (hK : Cells F ⟨4, 0, none⟩ (Sha.K.map W32)) (A0 : Option Addr) (n0 c0 : Nat) (l0 : List Pz) (sl0 : Sl F 3 A0 n0 c0 (putzV l0)) (b0 b1 dd : UInt8) : Ct Tryd.prog 14 [.slice A0 n0 c0, .agg #[B8 (b0), B8 (b1)], B8 (dd)] [F] (fun _ : Unit => .bool true) (fun _ => True) (fun _ => [F]) := by
  refine Ct.walk Tryd.func14 rfl Tryd.ntmps14 rfl (fun w0 hw0 => ?_)
  change J _ [(0, _), (1, _), (2, _)] _ _ _
  refine J.seq (fun K1 hK1 => ?_)
  refine J.region ?_
  refine J.e (op_box (l := [B8 (b0), B8 (b1)]) rfl rfl rfl) rfl rfl rfl ?_
  intro g4 _
  change J _ _ _ [F, blk g4 [B8 (b0), B8 (b1)] 96] _
  refine J.y (op_assign rfl rfl) rfl rfl rfl ?_
  refine J.nil ?_
  refine J.then_n (J.k hK1 ?_)
  refine J.keepE [(0, _), (2, _), (4, _)] ⟨rfl, rfl, rfl, trivial⟩ ?_
  refine J.seq (fun K2 hK2 => ?_)
  refine J.seq (fun K3 hK3 => ?_)
  refine J.region ?_
  refine J.e (op_call rfl rfl ent71 (Ct.use0 (fun F' hF => speaks14_ct F' (hK.mono (hF F (by simp)))))) rfl rfl rfl ?_
  intro g19 _
  refine J.y (op_not rfl rfl) rfl rfl rfl ?_
  refine J.nil ?_
  refine J.then_n (J.k hK3 ?_)
  refine J.keepE [(0, _), (2, _), (4, _), (20, _)] ⟨rfl, rfl, rfl, rfl, trivial⟩ ?_
  refine J.condF rfl rfl ?_
  refine J.skip ?_
  refine J.then_n (J.k hK2 ?_)
  refine J.keepE [(0, _), (2, _), (4, _)] ⟨rfl, rfl, rfl, trivial⟩ ?_
  refine J.seq (fun K4 hK4 => ?_)
  refine J.region ?_
  refine J.y (op_move rfl rfl) rfl rfl rfl ?_
  refine J.e (op_call rfl rfl ent72 (Ct.use (new := fun x : List Pr × List Sm.PR × Option Addr × Nat × Hp × Nat × Hp => [x.2.2.2.2.1, x.2.2.2.2.2.2]) (fun F' hF => both14_ct F' A0 n0 c0 l0 (sl0.mono (hF F (by simp)))))) rfl rfl rfl ?_
  rintro ⟨m, kv, A, c, mr, g, mo⟩ ⟨hp, hm, hr, ht⟩
  change J _ ((23, .tuple #[.slice A m.length c, Ptr g]) :: _) _ [F, blk g4 [B8 (b0), B8 (b1)] 96, mr, mo] _
  refine J.y (op_move rfl rfl) rfl rfl rfl ?_
  refine J.y (op_extract (v := .slice A m.length c) rfl rfl rfl) rfl rfl rfl ?_
  refine J.y (op_extract (v := Ptr g) rfl rfl rfl) rfl rfl rfl ?_
  refine J.y (op_assign rfl rfl) rfl rfl rfl ?_
  refine J.y (op_assign rfl rfl) rfl rfl rfl ?_
  refine J.nil ?_
  refine J.then_n (J.k hK4 ?_)
  refine J.keepE [(2, _), (4, _), (8, _)] ⟨rfl, rfl, rfl, trivial⟩ ?_
  refine J.seq (fun K5 hK5 => ?_)
  dsimp only at hp hm hr ht
  have hfi := hp.fine
  have hln := hp.len
  have hwm : Sm.WF (128 - 0) (m.map toP) := hp.wf
  have hvm := hp.small
  have hkl := Sm.keysS_len kv
  refine J.region ?_
  refine J.y (op_indexAddrJ (i := 0) (j := 0) rfl rfl rfl Tryd.underlying96 Tryd.sizeOf5 (by omega) rfl) rfl rfl rfl ?_
  refine J.y (op_loadB 1 (v := B8 (b0)) rfl rfl rfl Tryd.isAgg5 rfl) rfl rfl rfl ?_
  refine J.y (op_indexAddrJ (i := 1) (j := 1) rfl rfl rfl Tryd.underlying96 Tryd.sizeOf5 (by omega) rfl) rfl rfl rfl ?_
  refine J.y (op_loadB 1 (v := B8 (b1)) rfl rfl rfl Tryd.isAgg5 rfl) rfl rfl rfl ?_
  refine J.e (op_call rfl rfl ent73 (Ct.use0 (fun F' hF => key14_ct F' b0 b1))) rfl rfl rfl ?_
  intro g30 _
  refine J.y (op_move rfl rfl) rfl rfl rfl ?_
  refine J.y (op_cv_u8_i64 rfl rfl Tryd.underlying5 Tryd.underlying3) rfl rfl rfl ?_
  refine J.y ((op_rem rfl rfl rfl (by first | omega | (simp only [List.length_append, List.length_cons, List.length_nil, List.length_take, List.length_drop] at *; omega))).as (v' := I ((dd.toNat % 5 : Nat) : Int)) (congrArg I (by omega))) rfl rfl rfl ?_
  refine J.y (op_assign rfl rfl) rfl rfl rfl ?_
  refine J.y (op_assign rfl rfl) rfl rfl rfl ?_
  refine J.nil ?_
  refine J.then_n (J.k hK5 ?_)
  refine J.keepE [(8, _), (9, _), (10, _)] ⟨rfl, rfl, rfl, trivial⟩ ?_
  refine J.seq (fun K6 hK6 => ?_)
  obtain ⟨D, hD⟩ : ∃ D, D = dd.toNat % 5 := ⟨_, rfl⟩
  rw [← hD]
  have hD4 : D ≤ 4 := by omega
  obtain ⟨k, hk⟩ : ∃ k, k = keyP b0 b1 := ⟨_, rfl⟩
  rw [← hk]
  have hk16 : k.length = 16 := by rw [hk]; rfl
  have hmd := min_d (show D ≤ 128 by omega)
  refine J.region ?_
  refine J.y (op_move rfl rfl) rfl rfl rfl ?_
  refine J.y (op_move rfl rfl) rfl rfl rfl ?_
  refine J.e (op_call rfl rfl ent74 (Ct.use (new := fun x : Nat × Option Addr × Nat × Hp => [x.2.2.2]) (fun F' hF => prove_ct F' (hK.mono (hF F (by simp))) g kv (ht.at.mono (hF mo (by simp))) hfi k (by first | assumption | rfl) 0 (by omega)))) rfl rfl rfl ?_
  rintro ⟨s37, A37, c37, m37⟩ ⟨hst37, hr37⟩
  change J _ ((37, .tuple #[.agg #[.slice A37 (bsd kv k 0 (s37 - 0)).length c37, .bool (pThere kv k s37), Str (pKey kv k s37), Str (pVal kv k s37)], I 0]) :: _) _ [F, blk g4 [B8 (b0), B8 (b1)] 96, mr, mo, m37] _
  refine J.y (op_move rfl rfl) rfl rfl rfl ?_
  refine J.y (op_extract (v := .agg #[.slice A37 ((bsd kv k 0 (s37 - 0)).length) c37, .bool (pThere kv k s37), Str (pKey kv k s37), Str (pVal kv k s37)]) rfl rfl rfl) rfl rfl rfl ?_
  refine J.y (op_extract (v := I ((0 : Nat) : Int)) rfl rfl rfl) rfl rfl rfl ?_
  refine J.e (op_alloc (l := [.slice none 0 0, .bool false, Str [], Str []]) rfl Tryd.zeroValue107 rfl) rfl rfl rfl ?_
  intro g11 _
  change J _ _ _ [F, blk g4 [B8 (b0), B8 (b1)] 96, mr, mo, m37, blk g11 [.slice none 0 0, .bool false, Str [], Str []] 107] _
  refine J.s (op_storeAll (i := 5) (l := [.slice none 0 0, .bool false, Str [], Str []]) (vs := [.slice A37 ((bsd kv k 0 (s37 - 0)).length) c37, .bool (pThere kv k s37), Str (pKey kv k s37), Str (pVal kv k s37)]) rfl rfl rfl rfl rfl Tryd.sizeOf107 rfl rfl) rfl rfl (fun _ _ => ?_)
  change J _ _ _ [F, blk g4 [B8 (b0), B8 (b1)] 96, mr, mo, m37, blk g11 [.slice A37 ((bsd kv k 0 (s37 - 0)).length) c37, .bool (pThere kv k s37), Str (pKey kv k s37), Str (pVal kv k s37)] 107] _
  refine J.y (op_assign rfl rfl) rfl rfl rfl ?_
  refine J.nil ?_
  refine J.then_n (J.k hK6 ?_)
  refine J.keepE [(8, _), (9, _), (10, _), (11, _), (12, _)] ⟨rfl, rfl, rfl, rfl, rfl, trivial⟩ ?_
  refine J.seq (fun K7 hK7 => ?_)
  refine J.region ?_
  refine J.y (op_move rfl rfl) rfl rfl rfl ?_
  refine J.y (op_move rfl rfl) rfl rfl rfl ?_
  refine J.y (op_move rfl rfl) rfl rfl rfl ?_
  refine J.e (op_call rfl rfl ent74 (Ct.use (new := fun x : Nat × Option Addr × Nat × Hp => [x.2.2.2]) (fun F' hF => prove_ct F' (hK.mono (hF F (by simp))) g kv (ht.at.mono (hF mo (by simp))) hfi k (by first | assumption | rfl) D (by omega)))) rfl rfl rfl ?_
  rintro ⟨s44, A44, c44, m44⟩ ⟨hst44, hr44⟩
  change J _ ((44, .tuple #[.agg #[.slice A44 (bsd kv k D (s44 - D)).length c44, .bool (pThere kv k s44), Str (pKey kv k s44), Str (pVal kv k s44)], I 0]) :: _) _ [F, blk g4 [B8 (b0), B8 (b1)] 96, mr, mo, m37, blk g11 [.slice A37 ((bsd kv k 0 (s37 - 0)).length) c37, .bool (pThere kv k s37), Str (pKey kv k s37), Str (pVal kv k s37)] 107, m44] _
  refine J.y (op_move rfl rfl) rfl rfl rfl ?_
  refine J.y (op_extract (v := .agg #[.slice A44 ((bsd kv k D (s44 - D)).length) c44, .bool (pThere kv k s44), Str (pKey kv k s44), Str (pVal kv k s44)]) rfl rfl rfl) rfl rfl rfl ?_
  refine J.y (op_extract (v := I ((0 : Nat) : Int)) rfl rfl rfl) rfl rfl rfl ?_
  refine J.e (op_alloc (l := [.slice none 0 0, .bool false, Str [], Str []]) rfl Tryd.zeroValue107 rfl) rfl rfl rfl ?_
  intro g13 _
  change J _ _ _ [F, blk g4 [B8 (b0), B8 (b1)] 96, mr, mo, m37, blk g11 [.slice A37 ((bsd kv k 0 (s37 - 0)).length) c37, .bool (pThere kv k s37), Str (pKey kv k s37), Str (pVal kv k s37)] 107, m44, blk g13 [.slice none 0 0, .bool false, Str [], Str []] 107] _
  refine J.s (op_storeAll (i := 7) (l := [.slice none 0 0, .bool false, Str [], Str []]) (vs := [.slice A44 ((bsd kv k D (s44 - D)).length) c44, .bool (pThere kv k s44), Str (pKey kv k s44), Str (pVal kv k s44)]) rfl rfl rfl rfl rfl Tryd.sizeOf107 rfl rfl) rfl rfl (fun _ _ => ?_)
  change J _ _ _ [F, blk g4 [B8 (b0), B8 (b1)] 96, mr, mo, m37, blk g11 [.slice A37 ((bsd kv k 0 (s37 - 0)).length) c37, .bool (pThere kv k s37), Str (pKey kv k s37), Str (pVal kv k s37)] 107, m44, blk g13 [.slice A44 ((bsd kv k D (s44 - D)).length) c44, .bool (pThere kv k s44), Str (pKey kv k s44), Str (pVal kv k s44)] 107] _
  refine J.y (op_assign rfl rfl) rfl rfl rfl ?_
  refine J.nil ?_
  refine J.then_n (J.k hK7 ?_)
  refine J.keepE [(8, _), (9, _), (10, _), (11, _), (12, _), (13, _), (14, _)] ⟨rfl, rfl, rfl, rfl, rfl, rfl, rfl, trivial⟩ ?_
  refine J.seq (fun K8 hK8 => ?_)
  refine J.seq (fun K9 hK9 => ?_)
  refine J.region ?_
  refine J.y (op_move rfl rfl) rfl rfl rfl ?_
  refine J.y ((op_neq rfl rfl rfl).as (v' := .bool false) (congrArg Value.bool (decide_eq_false (by decide)))) rfl rfl rfl ?_
  refine J.y (op_move rfl rfl) rfl rfl rfl ?_
  refine J.yg (Wan.is rfl rfl rfl rfl rfl) (op_move rfl rfl) rfl rfl ?_
  refine J.yg (Wan.is rfl rfl rfl rfl rfl) ((op_neq rfl rfl rfl).as (v' := .bool false) (congrArg Value.bool (decide_eq_false (by decide)))) rfl rfl ?_
  refine J.y (op_pickF rfl rfl rfl) rfl rfl rfl ?_
  refine J.nil ?_
  refine J.then_n (J.k hK9 ?_)
  refine J.keepE [(8, _), (9, _), (10, _), (11, _), (13, _), (52, _)] ⟨rfl, rfl, rfl, rfl, rfl, rfl, trivial⟩ ?_
  refine J.condF rfl rfl ?_
  refine J.skip ?_
  refine J.then_n (J.k hK8 ?_)
  refine J.keepE [(8, _), (9, _), (10, _), (11, _), (13, _)] ⟨rfl, rfl, rfl, rfl, rfl, trivial⟩ ?_
  refine J.seq (fun K10 hK10 => ?_)
  have hq1 := hst37.le
  have hq2 := hst44.le
  have hb1 := bsd_len kv k 0 (s37 - 0)
  have hb2 := bsd_len kv k D (s44 - D)
  refine J.region ?_
  refine J.y (op_fieldAddr (j := 0) rfl rfl Tryd.underlying107 rfl Tryd.sizeOf36 rfl) rfl rfl rfl ?_
  refine J.y (op_loadB 5 (v := .slice A37 ((bsd kv k 0 (s37 - 0)).length) c37) rfl rfl rfl Tryd.isAgg36 rfl) rfl rfl rfl ?_
  refine J.y (op_len Tryd.underlying36 rfl rfl) rfl rfl rfl ?_
  refine J.y (op_move rfl rfl) rfl rfl rfl ?_
  refine J.y (op_sub rfl rfl rfl (by first | omega | (simp only [List.length_append, List.length_cons, List.length_nil, List.length_take, List.length_drop] at *; omega))) rfl rfl rfl ?_
  refine J.y ((op_max rfl rfl rfl).as (v' := I (((bsd kv k 0 (s37 - 0)).length - D : Nat) : Int)) (congrArg I (by omega))) rfl rfl rfl ?_
  refine J.y (op_assign rfl rfl) rfl rfl rfl ?_
  refine J.nil ?_
  refine J.then_n (J.k hK10 ?_)
  refine J.keepE [(8, _), (9, _), (10, _), (11, _), (13, _), (15, _)] ⟨rfl, rfl, rfl, rfl, rfl, rfl, trivial⟩ ?_
  refine J.cut (X := Unit) (fun ζ => [(8, Ptr g), (9, Str (k)), (10, I ((D : Nat) : Int)), (13, Ptr g13)]) (fun ζ => [F, blk g4 [B8 (b0), B8 (b1)] 96, mr, mo, m37, blk g11 [.slice A37 ((bsd kv k 0 (s37 - 0)).length) c37, .bool (pThere kv k s37), Str (pKey kv k s37), Str (pVal kv k s37)] 107, m44, blk g13 [.slice A44 ((bsd kv k D (s44 - D)).length) c44, .bool (pThere kv k s44), Str (pKey kv k s44), Str (pVal kv k s44)] 107]) (fun ζ => True) (fun K11 hK11 => ?_) ?_
  ·
    refine J.seq (fun K12 hK12 => ?_)
    refine J.region ?_
    refine J.y (op_fieldAddr (j := 0) rfl rfl Tryd.underlying107 rfl Tryd.sizeOf36 rfl) rfl rfl rfl ?_
    refine J.y (op_loadB 5 (v := .slice A37 ((bsd kv k 0 (s37 - 0)).length) c37) rfl rfl rfl Tryd.isAgg36 rfl) rfl rfl rfl ?_
    refine J.y (op_len Tryd.underlying36 rfl rfl) rfl rfl rfl ?_
    refine J.y (op_move rfl rfl) rfl rfl rfl ?_
    refine J.y (op_geq rfl rfl rfl) rfl rfl rfl ?_
    refine J.nil ?_
    refine J.then_n (J.k hK12 ?_)
    refine J.keepE [(8, _), (9, _), (10, _), (11, _), (13, _), (15, _), (63, _)] ⟨rfl, rfl, rfl, rfl, rfl, rfl, rfl, trivial⟩ ?_
    refine J.ite rfl (fun h63 => ?_) (fun h63 => ?_)
    ·
      have hss : s44 = s37 := hst44.uniq (hst37.from (Nat.zero_le _) (by omega))
      refine J.seq (fun K13 hK13 => ?_)
      refine J.seq (fun K14 hK14 => ?_)
      refine J.region ?_
      refine J.y (op_fieldAddr (j := 0) rfl rfl Tryd.underlying107 rfl Tryd.sizeOf36 rfl) rfl rfl rfl ?_
      refine J.y (op_loadB 7 (v := .slice A44 ((bsd kv k D (s44 - D)).length) c44) rfl rfl rfl Tryd.isAgg36 rfl) rfl rfl rfl ?_
      refine J.y (op_len Tryd.underlying36 rfl rfl) rfl rfl rfl ?_
      refine J.y (op_move rfl rfl) rfl rfl rfl ?_
      refine J.y ((op_neq rfl rfl rfl).as (v' := .bool false) (congrArg Value.bool (decide_eq_false (by omega)))) rfl rfl rfl ?_
      refine J.y (op_move rfl rfl) rfl rfl rfl ?_
      refine J.yg (Wan.is rfl rfl rfl rfl rfl) (op_fieldAddr (j := 1) rfl rfl Tryd.underlying107 rfl Tryd.sizeOf4 rfl) rfl rfl ?_
      refine J.yg (Wan.is rfl rfl rfl rfl rfl) (op_loadB 7 (v := .bool (pThere kv k s44)) rfl rfl rfl Tryd.isAgg4 rfl) rfl rfl ?_
      refine J.yg (Wan.is rfl rfl rfl rfl rfl) (op_fieldAddr (j := 1) rfl rfl Tryd.underlying107 rfl Tryd.sizeOf4 rfl) rfl rfl ?_
      refine J.yg (Wan.is rfl rfl rfl rfl rfl) (op_loadB 5 (v := .bool (pThere kv k s37)) rfl rfl rfl Tryd.isAgg4 rfl) rfl rfl ?_
      refine J.yg (Wan.is rfl rfl rfl rfl rfl) ((op_neqB Tryd.underlying4 rfl rfl rfl).as (v' := .bool false) (by rw [hss]; simp)) rfl rfl ?_
      refine J.y (op_pickF rfl rfl rfl) rfl rfl rfl ?_
      refine J.y (op_move rfl rfl) rfl rfl rfl ?_
      refine J.yg (Wan.is rfl rfl rfl rfl rfl) (op_fieldAddr (j := 2) rfl rfl Tryd.underlying107 rfl Tryd.sizeOf9 rfl) rfl rfl ?_
      refine J.yg (Wan.is rfl rfl rfl rfl rfl) (op_loadB 7 (v := Str (pKey kv k s44)) rfl rfl rfl Tryd.isAgg9 rfl) rfl rfl ?_
      refine J.yg (Wan.is rfl rfl rfl rfl rfl) (op_fieldAddr (j := 2) rfl rfl Tryd.underlying107 rfl Tryd.sizeOf9 rfl) rfl rfl ?_
      refine J.yg (Wan.is rfl rfl rfl rfl rfl) (op_loadB 5 (v := Str (pKey kv k s37)) rfl rfl rfl Tryd.isAgg9 rfl) rfl rfl ?_
      refine J.yg (Wan.is rfl rfl rfl rfl rfl) ((op_sne rfl rfl rfl).as (v' := .bool false) (congrArg Value.bool (decide_eq_false (by rw [hss]; exact fun h => h rfl)))) rfl rfl ?_
      refine J.y (op_pickF rfl rfl rfl) rfl rfl rfl ?_
      refine J.y (op_move rfl rfl) rfl rfl rfl ?_
      refine J.yg (Wan.is rfl rfl rfl rfl rfl) (op_fieldAddr (j := 3) rfl rfl Tryd.underlying107 rfl Tryd.sizeOf9 rfl) rfl rfl ?_
      refine J.yg (Wan.is rfl rfl rfl rfl rfl) (op_loadB 7 (v := Str (pVal kv k s44)) rfl rfl rfl Tryd.isAgg9 rfl) rfl rfl ?_
      refine J.yg (Wan.is rfl rfl rfl rfl rfl) (op_fieldAddr (j := 3) rfl rfl Tryd.underlying107 rfl Tryd.sizeOf9 rfl) rfl rfl ?_
      refine J.yg (Wan.is rfl rfl rfl rfl rfl) (op_loadB 5 (v := Str (pVal kv k s37)) rfl rfl rfl Tryd.isAgg9 rfl) rfl rfl ?_
      refine J.yg (Wan.is rfl rfl rfl rfl rfl) ((op_sne rfl rfl rfl).as (v' := .bool false) (congrArg Value.bool (decide_eq_false (by rw [hss]; exact fun h => h rfl)))) rfl rfl ?_
      refine J.y (op_pickF rfl rfl rfl) rfl rfl rfl ?_
      refine J.nil ?_
      refine J.then_n (J.k hK14 ?_)
      refine J.keepE [(8, _), (9, _), (10, _), (11, _), (13, _), (15, _), (89, _)] ⟨rfl, rfl, rfl, rfl, rfl, rfl, rfl, trivial⟩ ?_
      refine J.condF rfl rfl ?_
      refine J.skip ?_
      refine J.then_n (J.k hK13 ?_)
      refine J.keepE [(8, _), (9, _), (10, _), (11, _), (13, _), (15, _)] ⟨rfl, rfl, rfl, rfl, rfl, rfl, trivial⟩ ?_
      refine J.seq (fun K15 hK15 => ?_)
      refine J.region ?_
      refine J.y (op_assign rfl rfl) rfl rfl rfl ?_
      refine J.nil ?_
      refine J.then_n (J.k hK15 ?_)
      refine J.keepE [(8, _), (9, _), (10, _), (11, _), (13, _), (15, _), (16, _)] ⟨rfl, rfl, rfl, rfl, rfl, rfl, rfl, trivial⟩ ?_
      refine J.block ?_
      refine J.loop (X := Nat) (fun ζ => [(8, Ptr g), (9, Str (k)), (10, I ((D : Nat) : Int)), (11, Ptr g11), (13, Ptr g13), (15, I (((bsd kv k 0 (s37 - 0)).length - D : Nat) : Int)), (16, I ((ζ : Nat) : Int))]) (fun ζ => [F, blk g4 [B8 (b0), B8 (b1)] 96, mr, mo, m37, blk g11 [.slice A37 ((bsd kv k 0 (s37 - 0)).length) c37, .bool (pThere kv k s37), Str (pKey kv k s37), Str (pVal kv k s37)] 107, m44, blk g13 [.slice A44 ((bsd kv k D (s44 - D)).length) c44, .bool (pThere kv k s44), Str (pKey kv k s44), Str (pVal kv k s44)] 107]) (fun ζ => ζ ≤ (bsd kv k 0 (s37 - 0)).length - D) (fun ζ => (bsd kv k 0 (s37 - 0)).length - D - ζ) 0 (Nat.zero_le _) ⟨rfl, rfl, rfl, rfl, rfl, rfl, rfl, trivial⟩ (fun _ h => h) ?_
      rintro i hi I0 hI0
      refine J.seq (fun K16 hK16 => ?_)
      refine J.seq (fun K17 hK17 => ?_)
      refine J.region ?_
      refine J.y (op_move rfl rfl) rfl rfl rfl ?_
      refine J.y (op_move rfl rfl) rfl rfl rfl ?_
      refine J.y (op_lss rfl rfl rfl) rfl rfl rfl ?_
      refine J.nil ?_
      refine J.then_n (J.k hK17 ?_)
      refine J.keepE [(8, _), (9, _), (10, _), (11, _), (13, _), (15, _), (16, _), (92, _)] ⟨rfl, rfl, rfl, rfl, rfl, rfl, rfl, rfl, trivial⟩ ?_
      refine J.ite rfl (fun h92 => ?_) (fun h92 => ?_)
      ·
        refine J.skip ?_
        refine J.then_n (J.k hK16 ?_)
        refine J.keepE [(8, _), (9, _), (10, _), (11, _), (13, _), (15, _), (16, _)] ⟨rfl, rfl, rfl, rfl, rfl, rfl, rfl, trivial⟩ ?_
        refine J.seq (fun K18 hK18 => ?_)
        refine J.block ?_
        refine J.seq (fun K19 hK19 => ?_)
        refine J.draw [F, blk g4 [B8 (b0), B8 (b1)] 96, mr, mo, m37, blk g11 [.slice A37 ((bsd kv k 0 (s37 - 0)).length) c37, .bool (pThere kv k s37), Str (pKey kv k s37), Str (pVal kv k s37)] 107, m44, blk g13 [.slice A44 ((bsd kv k D (s44 - D)).length) c44, .bool (pThere kv k s44), Str (pKey kv k s44), Str (pVal kv k s44)] 107] [] (.y 0 (.y 1 (.y 2 (.y 3 (.y 4 (.y 5 (.y 6 (.y 7 (.y 8 (.y 9 (.y 10 (.y 11 (.y 12 .nil))))))))))))) Tryd.wide (by decide +kernel) (by simp) ?_
        refine J.dy rfl (op_fieldAddr (j := 0) rfl rfl Tryd.underlying107 rfl Tryd.sizeOf36 rfl) rfl rfl rfl rfl ?_
        refine J.dy rfl (op_loadB 7 (v := .slice A44 ((bsd kv k D (s44 - D)).length) c44) rfl rfl rfl Tryd.isAgg36 rfl) rfl rfl rfl rfl ?_
        refine J.dy rfl (op_move rfl rfl) rfl rfl rfl rfl ?_
        refine J.dy rfl (op_indexAddr (i := i) rfl rfl rfl Tryd.underlying36 Tryd.sizeOf9 hr44.sl (by first | omega | (simp only [List.length_append, List.length_cons, List.length_nil, List.length_take, List.length_drop] at *; omega))) rfl rfl rfl rfl ?_
        refine J.dy rfl (op_load rfl rfl Tryd.isAgg9 (m := m44) (by simp) (hr44.sl.elem (strsV_get (getSome [] (by first | omega | (simp only [List.length_append, List.length_cons, List.length_nil, List.length_take, List.length_drop] at *; omega)))))) rfl rfl rfl rfl ?_
        refine J.dy rfl (op_fieldAddr (j := 0) rfl rfl Tryd.underlying107 rfl Tryd.sizeOf36 rfl) rfl rfl rfl rfl ?_
        refine J.dy rfl (op_loadB 5 (v := .slice A37 ((bsd kv k 0 (s37 - 0)).length) c37) rfl rfl rfl Tryd.isAgg36 rfl) rfl rfl rfl rfl ?_
        refine J.dy rfl (op_move rfl rfl) rfl rfl rfl rfl ?_
        refine J.dy rfl (op_move rfl rfl) rfl rfl rfl rfl ?_
        refine J.dy rfl ((op_add rfl rfl rfl (by first | omega | (simp only [List.length_append, List.length_cons, List.length_nil, List.length_take, List.length_drop] at *; omega))).as (v' := I ((i + D : Nat) : Int)) (congrArg I (by omega))) rfl rfl rfl rfl ?_
        refine J.dy rfl (op_indexAddr (i := i + D) rfl rfl rfl Tryd.underlying36 Tryd.sizeOf9 hr37.sl (by first | omega | (simp only [List.length_append, List.length_cons, List.length_nil, List.length_take, List.length_drop] at *; omega))) rfl rfl rfl rfl ?_
        refine J.dy rfl (op_load rfl rfl Tryd.isAgg9 (m := m37) (by simp) (hr37.sl.elem (strsV_get (getSome [] (by first | omega | (simp only [List.length_append, List.length_cons, List.length_nil, List.length_take, List.length_drop] at *; omega)))))) rfl rfl rfl rfl ?_
        refine J.dy rfl ((op_sne rfl rfl rfl).as (v' := .bool false) (congrArg Value.bool (decide_eq_false (by rw [bsd_get _ _ _ (by omega), bsd_get _ _ _ (by omega), show 0 + (i + D) = D + i by omega]; exact fun h => h rfl)))) rfl rfl rfl rfl ?_
        refine J.dnil ?_
        refine J.then_n (J.k hK19 ?_)
        refine J.keepE [(8, _), (9, _), (10, _), (11, _), (13, _), (15, _), (16, _), (107, _)] ⟨rfl, rfl, rfl, rfl, rfl, rfl, rfl, rfl, trivial⟩ ?_
        refine J.condF rfl rfl ?_
        refine J.skip ?_
        refine J.blk_n ?_
        refine J.then_n (J.k hK18 ?_)
        refine J.keepE [(8, _), (9, _), (10, _), (11, _), (13, _), (15, _), (16, _)] ⟨rfl, rfl, rfl, rfl, rfl, rfl, rfl, trivial⟩ ?_
        refine J.region ?_
        refine J.y (op_move rfl rfl) rfl rfl rfl ?_
        refine J.y ((op_add rfl rfl rfl (by first | omega | (simp only [List.length_append, List.length_cons, List.length_nil, List.length_take, List.length_drop] at *; omega))).as (v' := I ((i + 1 : Nat) : Int)) (congrArg I (by omega))) rfl rfl rfl ?_
        refine J.y (op_assign rfl rfl) rfl rfl rfl ?_
        refine J.nil ?_
        refine J.then_n ?_
        exact J.kk (i + 1) (fun η (hη : _ ∧ (bsd kv k 0 (s37 - 0)).length - D - η < (bsd kv k 0 (s37 - 0)).length - D - i) => hI0 η hη.1 hη.2) ⟨(by omega), by first | omega | (dsimp only; omega)⟩ ⟨rfl, rfl, rfl, rfl, rfl, rfl, rfl, trivial⟩ (fun _ h => h)
      ·
        refine J.exit ?_
        refine J.then_x ?_
        refine J.then_x ?_
        refine J.blk_eq ?_
        refine J.then_n ?_
        exact J.kk () hK11 (trivial) ⟨rfl, rfl, rfl, rfl, trivial⟩ (fun _ h => h)
    ·
      refine J.skip ?_
      refine J.then_n ?_
      exact J.kk () hK11 (trivial) ⟨rfl, rfl, rfl, rfl, trivial⟩ (fun _ h => h)
  rintro _ _
  refine J.seq (fun K20 hK20 => ?_)
  have hg := prove_good hfi hk16 hst44
  have hv := pVal_small hfi k s44
  refine J.region ?_
  refine J.y (op_move rfl rfl) rfl rfl rfl ?_
  refine J.y (op_move rfl rfl) rfl rfl rfl ?_
  refine J.e (op_call rfl rfl ent52 (Ct.use0 (fun F' hF => tget_ct F' g kv (ht.at.mono (hF mo (by simp))) k))) rfl rfl rfl ?_
  intro g111 _
  refine J.y (op_move rfl rfl) rfl rfl rfl ?_
  refine J.y (op_extract (v := Str ((Sm.getP kv k).getD [])) rfl rfl rfl) rfl rfl rfl ?_
  refine J.y (op_extract (v := .bool ((Sm.getP kv k).isSome)) rfl rfl rfl) rfl rfl rfl ?_
  refine J.y (op_assign rfl rfl) rfl rfl rfl ?_
  refine J.y (op_assign rfl rfl) rfl rfl rfl ?_
  refine J.nil ?_
  refine J.then_n (J.k hK20 ?_)
  refine J.keepE [(8, _), (9, _), (10, _), (13, _), (17, _), (18, _)] ⟨rfl, rfl, rfl, rfl, rfl, rfl, trivial⟩ ?_
  refine J.seq (fun K21 hK21 => ?_)
  refine J.draw [F, blk g4 [B8 (b0), B8 (b1)] 96, mr, mo, m37, blk g11 [.slice A37 ((bsd kv k 0 (s37 - 0)).length) c37, .bool (pThere kv k s37), Str (pKey kv k s37), Str (pVal kv k s37)] 107, m44, blk g13 [.slice A44 ((bsd kv k D (s44 - D)).length) c44, .bool (pThere kv k s44), Str (pKey kv k s44), Str (pVal kv k s44)] 107] [] (.y 0 (.y 1 (.y 2 (.y 3 (.y 5 (.y 6 (.y 7 (.y 9 (.e 4 (.e 8 (.y 10 (.y 11 (.y 12 (.y 13 (.y 14 (.y 15 (.y 17 (.y 18 (.y 20 (.y 21 (.e 16 (.e 19 (.y 22 (.y 23 (.y 24 .nil))))))))))))))))))))))))) Tryd.wide (by decide +kernel) (by simp) ?_
  refine J.dy rfl (op_loadBA 7 rfl rfl rfl Tryd.isAgg107 Tryd.sizeOf107 rfl) rfl rfl rfl rfl ?_
  refine J.dy rfl (op_move rfl rfl) rfl rfl rfl rfl ?_
  refine J.dy rfl (op_move rfl rfl) rfl rfl rfl rfl ?_
  refine J.dy rfl (op_move rfl rfl) rfl rfl rfl rfl ?_
  refine J.dy rfl (op_move rfl rfl) rfl rfl rfl rfl ?_
  refine J.dy rfl (op_move rfl rfl) rfl rfl rfl rfl ?_
  refine J.dy rfl (op_move rfl rfl) rfl rfl rfl rfl ?_
  refine J.dy rfl (op_move rfl rfl) rfl rfl rfl rfl ?_
  refine J.de rfl (op_call rfl rfl ent55 (Ct.use0 (fun F' hF => tNode_ct F' (hK.mono (hF F (by simp))) g kv (ht.at.mono (hF mo (by simp))) (by assumption) k (by first | omega | decide) ((D : Nat) : Int) (by first | assumption | exact wf_zero (by assumption) | exact wf_bel (by assumption) (by assumption))))) rfl rfl rfl (by simp) ?_
  intro g118 _
  refine J.de rfl (op_call rfl rfl ent79 (Ct.use0 (fun F' hF => has14_ct F' (hK.mono (hF F (by simp))) A44 c44 (bsd kv k D (s44 - D)) (hr44.sl.mono (hF m44 (by simp))) (pThere kv k s44) (pKey kv k s44) (pVal kv k s44) k D (by assumption) (Sm.ndB kv k (min ((D : Nat) : Int).toNat 128)) ((Sm.getP kv k).getD []) (by assumption)))) rfl rfl rfl (by simp) ?_
  intro g122 _
  refine J.dy rfl ((op_eqlB Tryd.underlying4 rfl rfl rfl).as (v' := .bool true) (by rw [hmd, prove_has hfi hk16 hst44]; simp)) rfl rfl rfl rfl ?_
  refine J.dy rfl (op_move rfl rfl) rfl rfl rfl rfl ?_
  refine J.dyg rfl (op_loadBA 7 rfl rfl rfl Tryd.isAgg107 Tryd.sizeOf107 rfl) (Wan.is rfl rfl rfl rfl rfl) rfl rfl rfl ?_
  refine J.dyg rfl (op_move rfl rfl) (Wan.is rfl rfl rfl rfl rfl) rfl rfl rfl ?_
  refine J.dyg rfl (op_move rfl rfl) (Wan.is rfl rfl rfl rfl rfl) rfl rfl rfl ?_
  refine J.dyg rfl (op_move rfl rfl) (Wan.is rfl rfl rfl rfl rfl) rfl rfl rfl ?_
  refine J.dyg rfl (op_move rfl rfl) (Wan.is rfl rfl rfl rfl rfl) rfl rfl rfl ?_
  refine J.dyg rfl (op_move rfl rfl) (Wan.is rfl rfl rfl rfl rfl) rfl rfl rfl ?_
  refine J.dyg rfl (op_move rfl rfl) (Wan.is rfl rfl rfl rfl rfl) rfl rfl rfl ?_
  refine J.dyg rfl (op_not rfl rfl) (Wan.is rfl rfl rfl rfl rfl) rfl rfl rfl ?_
  refine J.deg rfl (op_call rfl rfl ent55 (Ct.use0 (fun F' hF => tNode_ct F' (hK.mono (hF F (by simp))) g kv (ht.at.mono (hF mo (by simp))) (by assumption) k (by first | omega | decide) ((D : Nat) : Int) (by first | assumption | exact wf_zero (by assumption) | exact wf_bel (by assumption) (by assumption))))) (Wan.is rfl rfl rfl rfl rfl) rfl rfl (by simp) ?_
  intro g130 _
  refine J.deg rfl (op_call rfl rfl ent80 (Ct.use0 (fun F' hF => lacks14_ct F' (hK.mono (hF F (by simp))) A44 c44 (bsd kv k D (s44 - D)) (hr44.sl.mono (hF m44 (by simp))) (pThere kv k s44) (pKey kv k s44) (pVal kv k s44) k D (by assumption) (Sm.ndB kv k (min ((D : Nat) : Int).toNat 128)) (by assumption)))) (Wan.is rfl rfl rfl rfl rfl) rfl rfl (by simp) ?_
  intro g133 _
  refine J.dyg rfl ((op_eqlB Tryd.underlying4 rfl rfl rfl).as (v' := .bool true) (by rw [hmd, prove_lacks hfi hk16 hst44]; simp)) (Wan.is rfl rfl rfl rfl rfl) rfl rfl rfl ?_
  refine J.dy rfl (op_pickT rfl rfl rfl) rfl rfl rfl rfl ?_
  refine J.dy rfl (op_assign rfl rfl) rfl rfl rfl rfl ?_
  refine J.dnil ?_
  refine J.then_n (J.k hK21 ?_)
  refine J.keepE [(6, _)] ⟨rfl, trivial⟩ ?_
  refine J.ret ?_
  exact J.done hw0 (fun _ _ h => h) (res1 rfl rfl) (retOk () rfl trivial [0] rfl (by decide))

theorem putz_of {H : Type} {enc : TypeId × Value → H} {W : World} {xs : List (List Value)} (h : ∀ x ∈ xs, ∃ fuel y, DataW.trod enc Tryd.prog W 0 (fun _ => true) true fuel 166 x = some y) : ∃ l : List Pz, xs = putzV l ∧ ∀ a ∈ l, True :=
  rows_of (f := Pz.cells) (Q := fun _ => True) fun x hx => by
    obtain ⟨fuel, y, h1⟩ := h x hx
    obtain ⟨hl, hf⟩ := struct_of Tryd.underlying166 h1
    have hc : Tryd.prog.cellsOf 166 = 3 := by kernel_rfl
    have cB : Tryd.prog.cellsOf 5 = 1 := by kernel_rfl
    have cS : Tryd.prog.cellsOf 9 = 1 := by kernel_rfl
    rw [hc] at hl
    match x, hl, hf with
    | [v0, v1, v2], _, hf =>
      obtain ⟨_, _, h0⟩ := hf 0 _ rfl
      obtain ⟨_, _, h1⟩ := hf 1 _ rfl
      obtain ⟨_, _, h2⟩ := hf 2 _ rfl
      dsimp only at h0 h1 h2
      rw [cB] at h0
      rw [cB] at h1
      rw [cS] at h2
      obtain ⟨w0, rfl⟩ := u8_of Tryd.underlying5 h0
      obtain ⟨w1, rfl⟩ := u8_of Tryd.underlying5 h1
      obtain ⟨w2, rfl⟩ := str_of Tryd.underlying9 h2
      exact ⟨⟨w0, w1, w2⟩, rfl, trivial⟩

end Go.Proofs.YtpcffgkmpmcobaaDoor
