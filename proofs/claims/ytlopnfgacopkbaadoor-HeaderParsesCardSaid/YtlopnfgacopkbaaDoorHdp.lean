/- A part of the proof: contracts of functions of the program, each for every state of the heaps that it names. -/
import Derived.Test.YtlopnfgacopkbaaDoorHdl
import Derived.Test.YtlopnfgacopkbaaDoorFwR
set_option linter.unusedSimpArgs false
set_option linter.unusedVariables false
namespace Go.Proofs.YtlopnfgacopkbaaDoor
open Go Go.Fw
set_option maxRecDepth 100000
set_option maxHeartbeats 1000000
theorem ent27 : Enters Tryd.prog 27 := Enters.of Tryd.func27 rfl (by kernel_rfl)
theorem ent28 : Enters Tryd.prog 28 := Enters.of Tryd.func28 rfl (by kernel_rfl)
theorem ent46 : Enters Tryd.prog 46 := Enters.of Tryd.func46 rfl (by kernel_rfl)

theorem headerParses_ct (F : Hp) (hK : Cells F ⟨0, 0, none⟩ (Sha.K.map W32)) (ep : Nat) (hep : ep < 18446744073709551616) (p : List UInt8) (d a : Int) (ns : List UInt8) (junk : List UInt8) (cut : UInt8) :
    Ct Tryd.prog 9 [.agg #[N64 ep, Str p, I d, I a, Str ns], Str junk, B8 cut] [F] (fun _ : Unit => .bool true) (fun _ => True) (fun _ => [F]) := by
  obtain ⟨x, hx⟩ : ∃ x, x = told ep p d a ns := ⟨_, rfl⟩
  have hg : x.good := hx ▸ told_good p d a ns hep
  have hsm : ∀ s ∈ x.nodes, s.length ≤ 1048576 := fun s hs => Nat.le_trans (told_small ep p d a ns s (hx ▸ hs)) (by decide)
  refine Ct.walk Tryd.func9 rfl Tryd.ntmps9 rfl (fun w0 hw0 => ?_)
  change J _ [(0, _), (1, _), (2, _)] _ _ _
  refine J.seq (fun K1 hK1 => ?_)
  refine J.region ?_
  refine J.e (op_box rfl rfl (l := [N64 ep, Str p, I d, I a, Str ns]) rfl) rfl rfl rfl ?_
  intro g3 _
  change J _ _ _ [F, blk g3 [N64 ep, Str p, I d, I a, Str ns] 55] _
  refine J.y (op_assign rfl rfl) rfl rfl rfl ?_
  refine J.nil ?_
  refine J.then_n (J.k hK1 ?_)
  refine J.keepE [(1, _), (2, _), (3, _)] ⟨rfl, rfl, rfl, trivial⟩ ?_
  refine J.seq (fun K2 hK2 => ?_)
  refine J.seq (fun K3 hK3 => ?_)
  refine J.region ?_
  refine J.e (op_call rfl rfl ent27 (Ct.use0 (fun F' hF => speaks19_ct F' (hK.mono (hF F (by simp)))))) rfl rfl rfl ?_
  intro g13 _
  refine J.y ((op_not rfl rfl).as (v' := .bool false) rfl) rfl rfl rfl ?_
  refine J.nil ?_
  refine J.then_n (J.k hK3 ?_)
  refine J.keepE [(1, _), (2, _), (3, _), (14, _)] ⟨rfl, rfl, rfl, rfl, trivial⟩ ?_
  refine J.condF rfl rfl ?_
  refine J.skip ?_
  refine J.then_n (J.k hK2 ?_)
  refine J.keepE [(1, _), (2, _), (3, _)] ⟨rfl, rfl, rfl, trivial⟩ ?_
  refine J.seq (fun K4 hK4 => ?_)
  refine J.region ?_
  refine J.y (op_loadBA 1 rfl rfl rfl Tryd.isAgg55 Tryd.sizeOf55 rfl) rfl rfl rfl ?_
  refine J.e (op_call rfl rfl ent28 (Ct.use (new := fun y : Option Addr × Nat × Hp => [y.2.2]) (fun F' _ => told_ct2 F' ep hep p d a ns x hx))) rfl rfl rfl ?_
  rintro ⟨A, c, m⟩ hsl
  try dsimp only at hsl
  change J _ _ _ [F, blk g3 [N64 ep, Str p, I d, I a, Str ns] 55, m] _
  refine J.e (op_call rfl rfl ent45 (Ct.use0 (fun F' hF => hencode_ct F' x A c hg (hsl.mono (hF m (by simp)))))) rfl rfl rfl ?_
  intro g18 _
  refine J.y (op_move rfl rfl) rfl rfl rfl ?_
  refine J.y (op_extract (v := Str x.enc) rfl rfl rfl) rfl rfl rfl ?_
  refine J.y (op_extract (v := I x.err) rfl rfl rfl) rfl rfl rfl ?_
  refine J.y (op_assign rfl rfl) rfl rfl rfl ?_
  refine J.y (op_assign rfl rfl) rfl rfl rfl ?_
  refine J.nil ?_
  refine J.then_n (J.k hK4 ?_)
  refine J.keepE [(1, _), (2, _), (7, _), (8, _)] ⟨rfl, rfl, rfl, rfl, trivial⟩ ?_
  refine J.cut (fun u : List UInt8 => [(1, Str junk), (2, B8 cut), (7, Str u)]) (fun _ => [F, blk g3 [N64 ep, Str p, I d, I a, Str ns] 55, m]) (fun u => u.length ≤ 326) (fun K5 hK5 => ?_) ?_
  ·
    refine J.seq (fun K6 hK6 => ?_)
    refine J.region ?_
    refine J.y (op_move rfl rfl) rfl rfl rfl ?_
    refine J.y (op_neq rfl rfl rfl) rfl rfl rfl ?_
    refine J.nil ?_
    refine J.then_n (J.k hK6 ?_)
    refine J.keepE [(1, _), (2, _), (7, _), (22, _)] ⟨rfl, rfl, rfl, rfl, trivial⟩ ?_
    refine J.ite rfl (fun h22 => ?_) (fun h22 => ?_)
    ·
      refine J.region ?_
      refine J.y (op_assign rfl rfl) rfl rfl rfl ?_
      refine J.nil ?_
      refine J.then_n ?_
      exact J.kk (List.replicate 32 0) hK5 (by decide) ⟨rfl, rfl, rfl, trivial⟩ (fun _ h => h)
    ·
      refine J.skip ?_
      refine J.then_n ?_
      exact J.kk x.enc hK5 (enc_le x) ⟨rfl, rfl, rfl, trivial⟩ (fun _ h => h)
  intro u hu
  obtain ⟨k, hk⟩ : ∃ k, k = cut.toNat % (u.length + 1) := ⟨_, rfl⟩
  have hku : k ≤ u.length := by rw [hk]; have := Nat.mod_lt cut.toNat (show 0 < u.length + 1 by omega); omega
  obtain ⟨v, hv⟩ : ∃ v, v = u.take k ++ junk.take 40 := ⟨_, rfl⟩
  have hin := hdE_in v
  refine J.seq (fun K7 hK7 => ?_)
  refine J.draw [F, blk g3 [N64 ep, Str p, I d, I a, Str ns] 55, m] [] (.y 0 (.y 1 (.y 2 (.y 3 (.y 4 (.y 5 (.y 6 (.y 7 (.y 8 (.y 9 (.y 10 (.y 11 (.y 12 (.y 13 (.y 14 .nil))))))))))))))) Tryd.wide (by decide +kernel) (by simp) ?_
  refine J.dy rfl (op_move rfl rfl) rfl rfl rfl rfl ?_
  refine J.dy rfl (op_move rfl rfl) rfl rfl rfl rfl ?_
  refine J.dy rfl (op_cv_u8_i64 rfl rfl Tryd.underlying5 Tryd.underlying3) rfl rfl rfl rfl ?_
  refine J.dy rfl (op_move rfl rfl) rfl rfl rfl rfl ?_
  refine J.dy rfl (op_slen Tryd.underlying9 rfl rfl) rfl rfl rfl rfl ?_
  refine J.dy rfl (op_add rfl rfl rfl (by omega)) rfl rfl rfl rfl ?_
  refine J.dy rfl ((op_rem rfl rfl rfl (by omega)).as (v' := I k) (congrArg I (by rw [hk]; simp))) rfl rfl rfl rfl ?_
  refine J.dy rfl ((op_sslice (l := 0) (h := k) Tryd.underlying9 rfl rfl rfl rfl ⟨by omega, by omega⟩).as (v' := Str (u.take k)) (congrArg Str List.drop_zero)) rfl rfl rfl rfl ?_
  refine J.dy rfl (op_move rfl rfl) rfl rfl rfl rfl ?_
  refine J.dy rfl (op_move rfl rfl) rfl rfl rfl rfl ?_
  refine J.dy rfl (op_slen Tryd.underlying9 rfl rfl) rfl rfl rfl rfl ?_
  refine J.dy rfl ((op_min rfl rfl rfl).as (v' := I ((min junk.length 40 : Nat) : Int)) (congrArg I (by omega))) rfl rfl rfl rfl ?_
  refine J.dy rfl ((op_sslice (l := 0) (h := min junk.length 40) Tryd.underlying9 rfl rfl rfl rfl ⟨by omega, by omega⟩).as (v' := Str (junk.take 40)) (congrArg Str (Sha.take_min _ _))) rfl rfl rfl rfl ?_
  refine J.dy rfl ((op_sadd rfl rfl rfl (by simp only [List.length_take]; omega)).as (v' := Str v) (congrArg Str hv.symm)) rfl rfl rfl rfl ?_
  refine J.dy rfl (op_assign rfl rfl) rfl rfl rfl rfl ?_
  refine J.dnil ?_
  refine J.then_n (J.k hK7 ?_)
  refine J.keepE [(7, _)] ⟨rfl, trivial⟩ ?_
  refine J.seq (fun K8 hK8 => ?_)
  refine J.region ?_
  refine J.y (op_move rfl rfl) rfl rfl rfl ?_
  refine J.e (op_call rfl rfl ent46 (Ct.use (new := fun y : Option Addr × Nat × Hp => [y.2.2]) (fun F' _ => hdecode_ct F' v))) rfl rfl rfl ?_
  rintro ⟨B, e, m2⟩ hm2
  try dsimp only at hm2
  change J _ _ _ [F, blk g3 [N64 ep, Str p, I d, I a, Str ns] 55, m, m2] _
  refine J.y (op_move rfl rfl) rfl rfl rfl ?_
  refine J.y (op_extract (v := .agg #[N64 (hdY v).ep, Str (hdY v).par, I (hdY v).dep, I (hdY v).aud, .slice B (hdY v).nodes.length e]) rfl rfl rfl) rfl rfl rfl ?_
  refine J.y (op_extract (v := I (hdE v)) rfl rfl rfl) rfl rfl rfl ?_
  refine J.e (op_alloc rfl Tryd.zeroValue57 rfl) rfl rfl rfl ?_
  intro g9 _
  change J _ _ _ [F, blk g3 [N64 ep, Str p, I d, I a, Str ns] 55, m, m2, blk g9 _ 57] _
  refine J.s (op_storeAll (l := [N64 0, Str [], I 0, I 0, .slice none 0 0]) (i := 4) (vs := [N64 (hdY v).ep, Str (hdY v).par, I (hdY v).dep, I (hdY v).aud, .slice B (hdY v).nodes.length e]) rfl rfl rfl rfl rfl Tryd.sizeOf57 rfl rfl) rfl rfl (fun _ _ => ?_)
  change J _ _ _ [F, blk g3 [N64 ep, Str p, I d, I a, Str ns] 55, m, m2, blk g9 [N64 (hdY v).ep, Str (hdY v).par, I (hdY v).dep, I (hdY v).aud, .slice B (hdY v).nodes.length e] 57] _
  refine J.y (op_assign rfl rfl) rfl rfl rfl ?_
  refine J.nil ?_
  refine J.then_n (J.k hK8 ?_)
  refine J.keepE [(7, _), (9, _), (10, _)] ⟨rfl, rfl, rfl, trivial⟩ ?_
  refine J.seq (fun K9 hK9 => ?_)
  refine J.seq (fun K10 hK10 => ?_)
  refine J.region ?_
  refine J.y (op_move rfl rfl) rfl rfl rfl ?_
  refine J.y (op_neq rfl rfl rfl) rfl rfl rfl ?_
  refine J.nil ?_
  refine J.then_n (J.k hK10 ?_)
  refine J.keepE [(7, _), (9, _), (10, _), (43, _)] ⟨rfl, rfl, rfl, rfl, trivial⟩ ?_
  refine J.ite rfl (fun h43 => ?_) (fun h43 => ?_)
  ·
    refine J.seq (fun K11 hK11 => ?_)
    refine J.region ?_
    refine J.y (op_loadBA 4 rfl rfl rfl Tryd.isAgg57 Tryd.sizeOf57 rfl) rfl rfl rfl ?_
    refine J.e (op_call rfl rfl ent47 (Ct.use0 (fun F' hF => hdigest_ct F' (hK.mono (hF F (by simp))) (hdY v) B e (hdY_good v) (hm2.mono (hF m2 (by simp)))))) rfl rfl rfl ?_
    intro g45 _
    refine J.y ((op_seq rfl rfl rfl).as (v' := .bool true) (congrArg Value.bool (decide_eq_true (by rw [hdY_zero (by omega)]; exact zero_dig)))) rfl rfl rfl ?_
    refine J.y (op_move rfl rfl) rfl rfl rfl ?_
    refine J.yg (Wan.is rfl rfl rfl rfl rfl) (op_move rfl rfl) rfl rfl ?_
    refine J.yg (Wan.is rfl rfl rfl rfl rfl) (op_eql rfl rfl rfl) rfl rfl ?_
    refine J.yg (Wan.is rfl rfl rfl rfl rfl) (op_move rfl rfl) rfl rfl ?_
    refine J.split (d := 50) rfl (fun h50 => ?_) (fun h50 => ?_)
    ·
      refine J.no (Wan.is rfl rfl rfl rfl rfl) rfl rfl ?_
      refine J.no (Wan.is rfl rfl rfl rfl rfl) rfl rfl ?_
      refine J.yg (Wan.is rfl rfl rfl rfl rfl) (op_pickT rfl rfl rfl) rfl rfl ?_
      refine J.yg (Wan.is rfl rfl rfl rfl rfl) (op_move rfl rfl) rfl rfl ?_
      refine J.no (Wan.is rfl rfl rfl rfl rfl) rfl rfl ?_
      refine J.no (Wan.is rfl rfl rfl rfl rfl) rfl rfl ?_
      refine J.yg (Wan.is rfl rfl rfl rfl rfl) (op_pickT rfl rfl rfl) rfl rfl ?_
      refine J.yg (Wan.is rfl rfl rfl rfl rfl) (op_move rfl rfl) rfl rfl ?_
      refine J.no (Wan.is rfl rfl rfl rfl rfl) rfl rfl ?_
      refine J.no (Wan.is rfl rfl rfl rfl rfl) rfl rfl ?_
      refine J.yg (Wan.is rfl rfl rfl rfl rfl) (op_pickT rfl rfl rfl) rfl rfl ?_
      refine J.y (op_pickT rfl rfl rfl) rfl rfl rfl ?_
      refine J.y (op_assign rfl rfl) rfl rfl rfl ?_
      refine J.nil ?_
      refine J.then_n (J.k hK11 ?_)
      refine J.keepE [(6, _)] ⟨rfl, trivial⟩ ?_
      refine J.ret ?_
      refine J.then_r ?_
      exact J.done hw0 (fun _ _ h => h) (res1 rfl rfl) (retOk () rfl trivial [0] rfl (by decide))
    ·
      refine J.yg (Wan.is rfl rfl rfl rfl rfl) (op_move rfl rfl) rfl rfl ?_
      refine J.yg (Wan.is rfl rfl rfl rfl rfl) (op_eql rfl rfl rfl) rfl rfl ?_
      refine J.yg (Wan.is rfl rfl rfl rfl rfl) (op_pickF rfl rfl rfl) rfl rfl ?_
      refine J.yg (Wan.is rfl rfl rfl rfl rfl) (op_move rfl rfl) rfl rfl ?_
      refine J.split (d := 54) rfl (fun h54 => ?_) (fun h54 => ?_)
      ·
        refine J.no (Wan.is rfl rfl rfl rfl rfl) rfl rfl ?_
        refine J.no (Wan.is rfl rfl rfl rfl rfl) rfl rfl ?_
        refine J.yg (Wan.is rfl rfl rfl rfl rfl) (op_pickT rfl rfl rfl) rfl rfl ?_
        refine J.yg (Wan.is rfl rfl rfl rfl rfl) (op_move rfl rfl) rfl rfl ?_
        refine J.no (Wan.is rfl rfl rfl rfl rfl) rfl rfl ?_
        refine J.no (Wan.is rfl rfl rfl rfl rfl) rfl rfl ?_
        refine J.yg (Wan.is rfl rfl rfl rfl rfl) (op_pickT rfl rfl rfl) rfl rfl ?_
        refine J.y (op_pickT rfl rfl rfl) rfl rfl rfl ?_
        refine J.y (op_assign rfl rfl) rfl rfl rfl ?_
        refine J.nil ?_
        refine J.then_n (J.k hK11 ?_)
        refine J.keepE [(6, _)] ⟨rfl, trivial⟩ ?_
        refine J.ret ?_
        refine J.then_r ?_
        exact J.done hw0 (fun _ _ h => h) (res1 rfl rfl) (retOk () rfl trivial [0] rfl (by decide))
      ·
        refine J.yg (Wan.is rfl rfl rfl rfl rfl) (op_move rfl rfl) rfl rfl ?_
        refine J.yg (Wan.is rfl rfl rfl rfl rfl) (op_eql rfl rfl rfl) rfl rfl ?_
        refine J.yg (Wan.is rfl rfl rfl rfl rfl) (op_pickF rfl rfl rfl) rfl rfl ?_
        refine J.yg (Wan.is rfl rfl rfl rfl rfl) (op_move rfl rfl) rfl rfl ?_
        refine J.split (d := 58) rfl (fun h58 => ?_) (fun h58 => ?_)
        ·
          refine J.no (Wan.is rfl rfl rfl rfl rfl) rfl rfl ?_
          refine J.no (Wan.is rfl rfl rfl rfl rfl) rfl rfl ?_
          refine J.yg (Wan.is rfl rfl rfl rfl rfl) (op_pickT rfl rfl rfl) rfl rfl ?_
          refine J.y (op_pickT rfl rfl rfl) rfl rfl rfl ?_
          refine J.y (op_assign rfl rfl) rfl rfl rfl ?_
          refine J.nil ?_
          refine J.then_n (J.k hK11 ?_)
          refine J.keepE [(6, _)] ⟨rfl, trivial⟩ ?_
          refine J.ret ?_
          refine J.then_r ?_
          exact J.done hw0 (fun _ _ h => h) (res1 rfl rfl) (retOk () rfl trivial [0] rfl (by decide))
        ·
          refine J.yg (Wan.is rfl rfl rfl rfl rfl) (op_move rfl rfl) rfl rfl ?_
          refine J.yg (Wan.is rfl rfl rfl rfl rfl) (op_eql rfl rfl rfl) rfl rfl ?_
          refine J.yg (Wan.is rfl rfl rfl rfl rfl) (op_pickF rfl rfl rfl) rfl rfl ?_
          refine J.y (op_pickT rfl rfl rfl) rfl rfl rfl ?_
          refine J.y (op_assign rfl rfl) rfl rfl rfl ?_
          refine J.nil ?_
          refine J.then_n (J.k hK11 ?_)
          refine J.keepE [(6, _)] ⟨rfl, trivial⟩ ?_
          refine J.ret ?_
          refine J.then_r ?_
          exact J.done hw0 (fun _ _ h => h) (res1 rfl rfl) (retOk () (congrArg Value.bool (decide_eq_true (by omega))) trivial [0] rfl (by decide))
  ·
    refine J.skip ?_
    refine J.then_n (J.k hK9 ?_)
    refine J.keepE [(7, _), (9, _)] ⟨rfl, rfl, trivial⟩ ?_
    refine J.seq (fun K12 hK12 => ?_)
    refine J.region ?_
    refine J.y (op_loadBA 4 rfl rfl rfl Tryd.isAgg57 Tryd.sizeOf57 rfl) rfl rfl rfl ?_
    refine J.e (op_call rfl rfl ent45 (Ct.use0 (fun F' hF => hencode_ct F' (hdY v) B e (hdY_good v) (hm2.mono (hF m2 (by simp)))))) rfl rfl rfl ?_
    intro g65 _
    refine J.y (op_move rfl rfl) rfl rfl rfl ?_
    refine J.y (op_extract (v := Str (hdY v).enc) rfl rfl rfl) rfl rfl rfl ?_
    refine J.y (op_extract (v := I (hdY v).err) rfl rfl rfl) rfl rfl rfl ?_
    refine J.y (op_assign rfl rfl) rfl rfl rfl ?_
    refine J.y (op_assign rfl rfl) rfl rfl rfl ?_
    refine J.nil ?_
    refine J.then_n (J.k hK12 ?_)
    refine J.keepE [(7, _), (11, _), (12, _)] ⟨rfl, rfl, rfl, trivial⟩ ?_
    refine J.seq (fun K13 hK13 => ?_)
    refine J.region ?_
    refine J.y (op_move rfl rfl) rfl rfl rfl ?_
    refine J.y ((op_eql rfl rfl rfl).as (v' := .bool true) (congrArg Value.bool (decide_eq_true ((hdY_x (by omega)).1)))) rfl rfl rfl ?_
    refine J.y (op_move rfl rfl) rfl rfl rfl ?_
    refine J.yg (Wan.is rfl rfl rfl rfl rfl) (op_move rfl rfl) rfl rfl ?_
    refine J.yg (Wan.is rfl rfl rfl rfl rfl) (op_move rfl rfl) rfl rfl ?_
    refine J.yg (Wan.is rfl rfl rfl rfl rfl) ((op_seq rfl rfl rfl).as (v' := .bool true) (congrArg Value.bool (decide_eq_true ((hdY_x (by omega)).2)))) rfl rfl ?_
    refine J.y (op_pickT rfl rfl rfl) rfl rfl rfl ?_
    refine J.y (op_assign rfl rfl) rfl rfl rfl ?_
    refine J.nil ?_
    refine J.then_n (J.k hK13 ?_)
    refine J.keepE [(6, _)] ⟨rfl, trivial⟩ ?_
    refine J.ret ?_
    exact J.done hw0 (fun _ _ h => h) (res1 rfl rfl) (retOk () rfl trivial [0] rfl (by decide))

theorem hdr_of {H : Type} {enc : TypeId × Value → H} {W : World} {r : Reach} {b0 : Nat} {v : Value} {d : DataW H} {ps : List MemPlace} (hval : Value.okWide Tryd.prog W r b0 55 v) (h : DataW.Trod enc Tryd.prog W 0 (fun _ => true) true 55 v d ps) :
    ∃ (ep : UInt64) (p : List UInt8) (d a : Int) (ns : List UInt8), v = .agg #[W64 ep, Str p, I d, I a, Str ns] := by
  obtain ⟨x, rfl, fuel, y, h1⟩ := open_struct Tryd.underlying55 hval h
  obtain ⟨hl, hf⟩ := struct_of Tryd.underlying55 h1
  have hc : Tryd.prog.cellsOf 55 = 5 := by kernel_rfl
  have c3 : Tryd.prog.cellsOf 3 = 1 := by kernel_rfl
  have c8 : Tryd.prog.cellsOf 47 = 1 := by kernel_rfl
  have c9 : Tryd.prog.cellsOf 9 = 1 := by kernel_rfl
  rw [hc] at hl
  match x, hl, hf with
  | [a, b, c, e, g], _, hf =>
    obtain ⟨_, _, h0⟩ := hf 0 _ rfl
    obtain ⟨_, _, h1⟩ := hf 1 _ rfl
    obtain ⟨_, _, h2⟩ := hf 2 _ rfl
    obtain ⟨_, _, h3⟩ := hf 3 _ rfl
    obtain ⟨_, _, h4⟩ := hf 4 _ rfl
    dsimp only at h0 h1 h2 h3 h4
    rw [c8] at h0
    rw [c9] at h1 h4
    rw [c3] at h2 h3
    obtain ⟨z0, rfl⟩ := u64_of Tryd.underlying47 h0
    obtain ⟨s1, rfl⟩ := str_of Tryd.underlying9 h1
    obtain ⟨z2, rfl, _⟩ := i64_of Tryd.underlying3 h2
    obtain ⟨z3, rfl, _⟩ := i64_of Tryd.underlying3 h3
    obtain ⟨s4, rfl⟩ := str_of Tryd.underlying9 h4
    exact ⟨z0, s1, z2, z3, s4, rfl⟩

end Go.Proofs.YtlopnfgacopkbaaDoor
