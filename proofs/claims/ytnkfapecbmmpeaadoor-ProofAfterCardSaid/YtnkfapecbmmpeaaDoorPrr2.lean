/- A part of the proof: contracts of functions of the program, each for every state of the heaps that it names. -/
import Derived.Test.YtnkfapecbmmpeaaDoorPrr1
import Derived.Test.YtnkfapecbmmpeaaDoorFwR
set_option linter.unusedSimpArgs false
set_option linter.unusedVariables false
namespace Go.Proofs.YtnkfapecbmmpeaaDoor
open Go Go.Fw
set_option maxRecDepth 100000
set_option maxHeartbeats 1000000
theorem ent24 : Enters Tryd.prog 24 := Enters.of Tryd.func24 rfl (by kernel_rfl)
theorem ent25 : Enters Tryd.prog 25 := Enters.of Tryd.func25 rfl (by kernel_rfl)
theorem ent28 : Enters Tryd.prog 28 := Enters.of Tryd.func28 rfl (by kernel_rfl)

theorem proofAfter_ct (F : Hp) (hK : Cells F ⟨1, 0, none⟩ (Sha.K.map W32)) (A0 : Option Addr) (n0 c0 : Nat) (l0 : List Pz) (sl0 : Sl F 3 A0 n0 c0 (putzV l0)) (b0 b1 : UInt8) (xv : List UInt8) (dd : UInt8) : Ct Tryd.prog 4 [.slice A0 n0 c0, .agg #[B8 (b0), B8 (b1), Str (xv)], B8 (dd)] [F] (fun _ : Unit => .bool true) (fun _ => True) (fun _ => [F]) := by
  refine Ct.walk Tryd.func4 rfl Tryd.ntmps4 rfl (fun w0 hw0 => ?_)
  change J _ [(0, _), (1, _), (2, _)] _ _ _
  refine J.seq (fun K1 hK1 => ?_)
  refine J.region ?_
  refine J.e (op_box (l := [B8 (b0), B8 (b1), Str (xv)]) rfl rfl rfl) rfl rfl rfl ?_
  intro g4 _
  change J _ _ _ [F, blk g4 [B8 (b0), B8 (b1), Str (xv)] 50] _
  refine J.y (op_assign rfl rfl) rfl rfl rfl ?_
  refine J.nil ?_
  refine J.then_n (J.k hK1 ?_)
  refine J.keepE [(0, _), (2, _), (4, _)] ⟨rfl, rfl, rfl, trivial⟩ ?_
  refine J.seq (fun K2 hK2 => ?_)
  refine J.seq (fun K3 hK3 => ?_)
  refine J.region ?_
  refine J.e (op_call rfl rfl ent24 (Ct.use0 (fun F' hF => speaks14_ct F' (hK.mono (hF F (by simp)))))) rfl rfl rfl ?_
  intro g16 _
  refine J.y (op_not rfl rfl) rfl rfl rfl ?_
  refine J.nil ?_
  refine J.then_n (J.k hK3 ?_)
  refine J.keepE [(0, _), (2, _), (4, _), (17, _)] ⟨rfl, rfl, rfl, rfl, trivial⟩ ?_
  refine J.condF rfl rfl ?_
  refine J.skip ?_
  refine J.then_n (J.k hK2 ?_)
  refine J.keepE [(0, _), (2, _), (4, _)] ⟨rfl, rfl, rfl, trivial⟩ ?_
  refine J.seq (fun K4 hK4 => ?_)
  refine J.region ?_
  refine J.y (op_move rfl rfl) rfl rfl rfl ?_
  refine J.e (op_call rfl rfl ent25 (Ct.use (new := fun x : List Pr × List Sm.PR × Option Addr × Nat × Hp × Nat × Hp => [x.2.2.2.2.1, x.2.2.2.2.2.2]) (fun F' hF => both14_ct F' A0 n0 c0 l0 (sl0.mono (hF F (by simp)))))) rfl rfl rfl ?_
  rintro ⟨m, kv, A, c, mr, g, mo⟩ ⟨hp, hm, hr, ht⟩
  change J _ ((20, .tuple #[.slice A m.length c, Ptr g]) :: _) _ [F, blk g4 [B8 (b0), B8 (b1), Str (xv)] 50, mr, mo] _
  refine J.y (op_move rfl rfl) rfl rfl rfl ?_
  refine J.y (op_extract (v := .slice A m.length c) rfl rfl rfl) rfl rfl rfl ?_
  refine J.y (op_extract (v := Ptr g) rfl rfl rfl) rfl rfl rfl ?_
  refine J.y (op_assign rfl rfl) rfl rfl rfl ?_
  refine J.y (op_assign rfl rfl) rfl rfl rfl ?_
  refine J.nil ?_
  refine J.then_n (J.k hK4 ?_)
  refine J.keepE [(2, _), (4, _), (8, _)] ⟨rfl, rfl, rfl, trivial⟩ ?_
  refine J.seq (fun K5 hK5 => ?_)
  dsimp only at hp hm hr ht
  have hfi := hp.fine
  have hln := hp.len
  have hwm : Sm.WF (128 - 0) (m.map toP) := hp.wf
  have hvm := hp.small
  have hkl := Sm.keysS_len kv
  refine J.region ?_
  refine J.y (op_fieldAddr (j := 0) rfl rfl Tryd.underlying50 rfl Tryd.sizeOf5 rfl) rfl rfl rfl ?_
  refine J.y (op_loadB 1 (v := B8 (b0)) rfl rfl rfl Tryd.isAgg5 rfl) rfl rfl rfl ?_
  refine J.y (op_fieldAddr (j := 1) rfl rfl Tryd.underlying50 rfl Tryd.sizeOf5 rfl) rfl rfl rfl ?_
  refine J.y (op_loadB 1 (v := B8 (b1)) rfl rfl rfl Tryd.isAgg5 rfl) rfl rfl rfl ?_
  refine J.e (op_call rfl rfl ent26 (Ct.use0 (fun F' hF => key14_ct F' b0 b1))) rfl rfl rfl ?_
  intro g27 _
  refine J.y (op_move rfl rfl) rfl rfl rfl ?_
  refine J.y (op_cv_u8_i64 rfl rfl Tryd.underlying5 Tryd.underlying3) rfl rfl rfl ?_
  refine J.y ((op_rem rfl rfl rfl (by first | omega | (simp only [List.length_append, List.length_cons, List.length_nil, List.length_take, List.length_drop] at *; omega))).as (v' := I ((dd.toNat % 30 : Nat) : Int)) (congrArg I (by omega))) rfl rfl rfl ?_
  refine J.y (op_assign rfl rfl) rfl rfl rfl ?_
  refine J.y (op_assign rfl rfl) rfl rfl rfl ?_
  refine J.nil ?_
  refine J.then_n (J.k hK5 ?_)
  refine J.keepE [(4, _), (8, _), (9, _), (10, _)] ⟨rfl, rfl, rfl, rfl, trivial⟩ ?_
  refine J.seq (fun K6 hK6 => ?_)
  obtain ⟨D, hD⟩ : ∃ D, D = dd.toNat % 30 := ⟨_, rfl⟩
  rw [← hD]
  have hD29 : D ≤ 29 := by omega
  obtain ⟨k, hk⟩ : ∃ k, k = keyP b0 b1 := ⟨_, rfl⟩
  rw [← hk]
  have hk16 : k.length = 16 := by rw [hk]; rfl
  have hmd := min_d (show D ≤ 128 by omega)
  refine J.region ?_
  refine J.y (op_fieldAddr (j := 2) rfl rfl Tryd.underlying50 rfl Tryd.sizeOf9 rfl) rfl rfl rfl ?_
  refine J.y (op_loadB 1 (v := Str (xv)) rfl rfl rfl Tryd.isAgg9 rfl) rfl rfl rfl ?_
  refine J.y (op_fieldAddr (j := 2) rfl rfl Tryd.underlying50 rfl Tryd.sizeOf9 rfl) rfl rfl rfl ?_
  refine J.y (op_loadB 1 (v := Str (xv)) rfl rfl rfl Tryd.isAgg9 rfl) rfl rfl rfl ?_
  refine J.y (op_slen Tryd.underlying9 rfl rfl) rfl rfl rfl ?_
  refine J.y ((op_min rfl rfl rfl).as (v' := I ((min xv.length 20 : Nat) : Int)) (congrArg I (by omega))) rfl rfl rfl ?_
  refine J.y ((op_sslice (a := xv) (l := 0) (h := (min xv.length 20)) Tryd.underlying9 rfl rfl rfl rfl ⟨by first | omega | (simp only [List.length_append, List.length_cons, List.length_nil, List.length_take, List.length_drop] at *; omega), by first | omega | (simp only [List.length_append, List.length_cons, List.length_nil, List.length_take, List.length_drop] at *; omega)⟩).as (v' := Str (xv.take (min xv.length 20))) (congrArg Str List.drop_zero)) rfl rfl rfl ?_
  refine J.y (op_assign rfl rfl) rfl rfl rfl ?_
  refine J.nil ?_
  refine J.then_n (J.k hK6 ?_)
  refine J.keepE [(8, _), (9, _), (10, _), (11, _)] ⟨rfl, rfl, rfl, rfl, trivial⟩ ?_
  refine J.seq (fun K7 hK7 => ?_)
  obtain ⟨v, hv⟩ : ∃ v, v = xv.take (min xv.length 20) := ⟨_, rfl⟩
  rw [← hv]
  have hvl : v.length ≤ 20 := by rw [hv, List.length_take]; omega
  have hv6 : v.length ≤ 1000000 := by omega
  refine J.region ?_
  refine J.y (op_move rfl rfl) rfl rfl rfl ?_
  refine J.y (op_move rfl rfl) rfl rfl rfl ?_
  refine J.y (op_move rfl rfl) rfl rfl rfl ?_
  refine J.e (op_call rfl rfl ent27 (Ct.use (new := fun x : Nat × Option Addr × Nat × Hp => [x.2.2.2]) (fun F' hF => prove_ct F' (hK.mono (hF F (by simp))) g kv (ht.at.mono (hF mo (by simp))) hfi k (by first | assumption | rfl) D (by omega)))) rfl rfl rfl ?_
  rintro ⟨s42, A42, c42, m42⟩ ⟨hst42, hr42⟩
  change J _ ((42, .tuple #[.agg #[.slice A42 (bsd kv k D (s42 - D)).length c42, .bool (pThere kv k s42), Str (pKey kv k s42), Str (pVal kv k s42)], I 0]) :: _) _ [F, blk g4 [B8 (b0), B8 (b1), Str (xv)] 50, mr, mo, m42] _
  refine J.y (op_move rfl rfl) rfl rfl rfl ?_
  refine J.y (op_extract (v := .agg #[.slice A42 ((bsd kv k D (s42 - D)).length) c42, .bool (pThere kv k s42), Str (pKey kv k s42), Str (pVal kv k s42)]) rfl rfl rfl) rfl rfl rfl ?_
  refine J.y (op_extract (v := I ((0 : Nat) : Int)) rfl rfl rfl) rfl rfl rfl ?_
  refine J.e (op_alloc (l := [.slice none 0 0, .bool false, Str [], Str []]) rfl Tryd.zeroValue57 rfl) rfl rfl rfl ?_
  intro g12 _
  change J _ _ _ [F, blk g4 [B8 (b0), B8 (b1), Str (xv)] 50, mr, mo, m42, blk g12 [.slice none 0 0, .bool false, Str [], Str []] 57] _
  refine J.s (op_storeAll (i := 5) (l := [.slice none 0 0, .bool false, Str [], Str []]) (vs := [.slice A42 ((bsd kv k D (s42 - D)).length) c42, .bool (pThere kv k s42), Str (pKey kv k s42), Str (pVal kv k s42)]) rfl rfl rfl rfl rfl Tryd.sizeOf57 rfl rfl) rfl rfl (fun _ _ => ?_)
  change J _ _ _ [F, blk g4 [B8 (b0), B8 (b1), Str (xv)] 50, mr, mo, m42, blk g12 [.slice A42 ((bsd kv k D (s42 - D)).length) c42, .bool (pThere kv k s42), Str (pKey kv k s42), Str (pVal kv k s42)] 57] _
  refine J.y (op_assign rfl rfl) rfl rfl rfl ?_
  refine J.nil ?_
  refine J.then_n (J.k hK7 ?_)
  refine J.keepE [(8, _), (9, _), (10, _), (11, _), (12, _), (13, _)] ⟨rfl, rfl, rfl, rfl, rfl, rfl, trivial⟩ ?_
  refine J.seq (fun K8 hK8 => ?_)
  have hg := prove_good hfi hk16 hst42
  have hpv := pVal_small hfi k s42
  have hfp := hfi.put hk16 hv6 (show kv.length ≤ 100000 by omega)
  have hpa := prove_after hfi hk16 hv6 (show kv.length ≤ 100000 by omega) hst42
  refine J.region ?_
  refine J.y (op_loadBA 5 rfl rfl rfl Tryd.isAgg57 Tryd.sizeOf57 rfl) rfl rfl rfl ?_
  refine J.y (op_move rfl rfl) rfl rfl rfl ?_
  refine J.y (op_move rfl rfl) rfl rfl rfl ?_
  refine J.y (op_move rfl rfl) rfl rfl rfl ?_
  refine J.e (op_call rfl rfl ent28 (Ct.use0 (fun F' hF => after14_ct F' (hK.mono (hF F (by simp))) A42 c42 (bsd kv k D (s42 - D)) (hr42.sl.mono (hF m42 (by simp))) (pThere kv k s42) (pKey kv k s42) (pVal kv k s42) k D (by assumption) v (by first | assumption | omega) (by assumption)))) rfl rfl rfl ?_
  intro g50 _
  refine J.y (op_move rfl rfl) rfl rfl rfl ?_
  refine J.y (op_extract (v := Str (afterV (bsd kv k D (s42 - D)) (pThere kv k s42) (pKey kv k s42) (pVal kv k s42) k v D)) rfl rfl rfl) rfl rfl rfl ?_
  refine J.y (op_extract (v := I ((0 : Nat) : Int)) rfl rfl rfl) rfl rfl rfl ?_
  refine J.y (op_assign rfl rfl) rfl rfl rfl ?_
  refine J.y (op_assign rfl rfl) rfl rfl rfl ?_
  refine J.nil ?_
  refine J.then_n (J.k hK8 ?_)
  refine J.keepE [(8, _), (9, _), (10, _), (11, _), (13, _), (14, _), (15, _)] ⟨rfl, rfl, rfl, rfl, rfl, rfl, rfl, trivial⟩ ?_
  refine J.seq (fun K9 hK9 => ?_)
  refine J.region ?_
  refine J.y (op_move rfl rfl) rfl rfl rfl ?_
  refine J.y (op_move rfl rfl) rfl rfl rfl ?_
  refine J.y (op_move rfl rfl) rfl rfl rfl ?_
  refine J.e (op_call rfl rfl ent29 (Ct.use1 3 (m' := fun x : Hp => x) (new := fun _ => []) rfl (fun F' hF => tput_ct F' mo g kv ht k v (by first | omega | rfl | assumption)))) rfl rfl rfl ?_
  rintro m56 h56
  change J _ ((56, I ((0 : Nat) : Int)) :: _) _ [F, blk g4 [B8 (b0), B8 (b1), Str (xv)] 50, mr, m56, m42, blk g12 [.slice A42 ((bsd kv k D (s42 - D)).length) c42, .bool (pThere kv k s42), Str (pKey kv k s42), Str (pVal kv k s42)] 57] _
  refine J.nil ?_
  refine J.then_n (J.k hK9 ?_)
  refine J.keepE [(8, _), (9, _), (10, _), (13, _), (14, _), (15, _)] ⟨rfl, rfl, rfl, rfl, rfl, rfl, trivial⟩ ?_
  refine J.seq (fun K10 hK10 => ?_)
  refine J.region ?_
  refine J.y (op_move rfl rfl) rfl rfl rfl ?_
  refine J.y ((op_eql rfl rfl rfl).as (v' := .bool true) (congrArg Value.bool (decide_eq_true (by decide)))) rfl rfl rfl ?_
  refine J.y (op_move rfl rfl) rfl rfl rfl ?_
  refine J.yg (Wan.is rfl rfl rfl rfl rfl) (op_move rfl rfl) rfl rfl ?_
  refine J.yg (Wan.is rfl rfl rfl rfl rfl) ((op_eql rfl rfl rfl).as (v' := .bool true) (congrArg Value.bool (decide_eq_true (by decide)))) rfl rfl ?_
  refine J.y (op_pickT rfl rfl rfl) rfl rfl rfl ?_
  refine J.y (op_move rfl rfl) rfl rfl rfl ?_
  refine J.yg (Wan.is rfl rfl rfl rfl rfl) (op_move rfl rfl) rfl rfl ?_
  refine J.yg (Wan.is rfl rfl rfl rfl rfl) (op_move rfl rfl) rfl rfl ?_
  refine J.yg (Wan.is rfl rfl rfl rfl rfl) (op_move rfl rfl) rfl rfl ?_
  refine J.yg (Wan.is rfl rfl rfl rfl rfl) (op_move rfl rfl) rfl rfl ?_
  refine J.eg (Wan.is rfl rfl rfl rfl rfl) (op_call rfl rfl ent30 (Ct.use0 (fun F' hF => tNode_ct F' (hK.mono (hF F (by simp))) g (Sm.putP kv k v) (h56.at.mono (hF m56 (by simp))) (by assumption) k (by first | omega | decide) ((D : Nat) : Int) (by first | assumption | exact wf_zero (by assumption) | exact wf_bel (by assumption) (by assumption))))) rfl rfl ?_
  intro g68 _
  refine J.yg (Wan.is rfl rfl rfl rfl rfl) ((op_seq rfl rfl rfl).as (v' := .bool true) (congrArg Value.bool (decide_eq_true (by rw [hmd, hpa])))) rfl rfl ?_
  refine J.y (op_pickT rfl rfl rfl) rfl rfl rfl ?_
  refine J.y (op_assign rfl rfl) rfl rfl rfl ?_
  refine J.nil ?_
  refine J.then_n (J.k hK10 ?_)
  refine J.keepE [(6, _)] ⟨rfl, trivial⟩ ?_
  refine J.ret ?_
  exact J.done hw0 (fun _ _ h => h) (res1 rfl rfl) (retOk () rfl trivial [0] rfl (by decide))

theorem putz_of {H : Type} {enc : TypeId × Value → H} {W : World} {xs : List (List Value)} (h : ∀ x ∈ xs, ∃ fuel y, DataW.trod enc Tryd.prog W 0 (fun _ => true) true fuel 50 x = some y) : ∃ l : List Pz, xs = putzV l ∧ ∀ a ∈ l, True :=
  rows_of (f := Pz.cells) (Q := fun _ => True) fun x hx => by
    obtain ⟨fuel, y, h1⟩ := h x hx
    obtain ⟨hl, hf⟩ := struct_of Tryd.underlying50 h1
    have hc : Tryd.prog.cellsOf 50 = 3 := by kernel_rfl
    have cB : Tryd.prog.cellsOf 5 = 1 := by kernel_rfl
    have cS : Tryd.prog.cellsOf 9 = 1 := by kernel_rfl
    rw [hc] at hl
    match x, hl, hf with
    | [v0, v1, v2], _, hf =>
      obtain ⟨_, _, h0⟩ := hf 0 _ rfl
      obtain ⟨_, _, h1⟩ := hf 1 _ rfl
      obtain ⟨_, _, h2⟩ := hf 2 _ rfl
      dsimp only at h0 h1 h2
      rw [cB] at h0
      rw [cB] at h1
      rw [cS] at h2
      obtain ⟨w0, rfl⟩ := u8_of Tryd.underlying5 h0
      obtain ⟨w1, rfl⟩ := u8_of Tryd.underlying5 h1
      obtain ⟨w2, rfl⟩ := str_of Tryd.underlying9 h2
      exact ⟨⟨w0, w1, w2⟩, rfl, trivial⟩

theorem putA_of {H : Type} {enc : TypeId × Value → H} {W : World} {r : Reach} {b0 : Nat} {v : Value} {d : DataW H} {ps : List MemPlace} (hval : Value.okWide Tryd.prog W r b0 50 v) (h : DataW.Trod enc Tryd.prog W 0 (fun _ => true) true 50 v d ps) :
    ∃ (a b : UInt8) (s : List UInt8), v = .agg #[B8 a, B8 b, Str s] := by
  obtain ⟨x, rfl, fuel, y, h1⟩ := open_struct Tryd.underlying50 hval h
  obtain ⟨hl, hf⟩ := struct_of Tryd.underlying50 h1
  have hc : Tryd.prog.cellsOf 50 = 3 := by kernel_rfl
  have c8 : Tryd.prog.cellsOf 5 = 1 := by kernel_rfl
  have c9 : Tryd.prog.cellsOf 9 = 1 := by kernel_rfl
  rw [hc] at hl
  match x, hl, hf with
  | [a, b, c], _, hf =>
    obtain ⟨_, _, h0⟩ := hf 0 _ rfl
    obtain ⟨_, _, h1⟩ := hf 1 _ rfl
    obtain ⟨_, _, h2⟩ := hf 2 _ rfl
    dsimp only at h0 h1 h2
    rw [c8] at h0 h1
    rw [c9] at h2
    obtain ⟨z0, rfl⟩ := u8_of Tryd.underlying5 h0
    obtain ⟨z1, rfl⟩ := u8_of Tryd.underlying5 h1
    obtain ⟨s2, rfl⟩ := str_of Tryd.underlying9 h2
    exact ⟨z0, z1, s2, rfl⟩

end Go.Proofs.YtnkfapecbmmpeaaDoor
