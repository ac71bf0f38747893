/- A part of the proof: contracts of functions of the program, each for every state of the heaps that it names. -/
import Derived.Test.YtlopnfgacopkbaaDoorEnz
set_option linter.unusedSimpArgs false
set_option linter.unusedVariables false
namespace Go.Proofs.YtlopnfgacopkbaaDoor
open Go Go.Fw
set_option maxRecDepth 100000
set_option maxHeartbeats 1000000
theorem ent23 : Enters Tryd.prog 23 := Enters.of Tryd.func23 rfl (by kernel_rfl)
theorem ent39 : Enters Tryd.prog 39 := Enters.of Tryd.func39 rfl (by kernel_rfl)

theorem want_ok (s : List UInt8) : deE s = if (s.length : Int) < 53 then 3 else if 53 < (s.length : Int) then 2 else if 6 < (s.getD 36 0).toNat then 4 else if s.take 4 = noughts.take 4 then 13 else 0 := by
  unfold deE
  by_cases h1 : s.length < 53
  · rw [if_pos h1, if_pos (show (s.length : Int) < 53 by omega)]
  · rw [if_neg h1, if_neg (show ¬ (s.length : Int) < 53 by omega)]
    by_cases h2 : 53 < s.length
    · rw [if_pos h2, if_pos (show 53 < (s.length : Int) by omega)]
    · rw [if_neg h2, if_neg (show ¬ 53 < (s.length : Int) by omega)]
      by_cases h3 : 6 < (s.getD 36 0).toNat
      · rw [if_pos h3, if_pos h3]
      · rw [if_neg h3, if_neg h3]
        have hz := zero4 (l := s.take 4) (by rw [List.length_take]; omega)
        have hq : noughts.take 4 = [0, 0, 0, 0] := by decide
        rw [hq]
        by_cases h4 : natB (s.take 4) < 1
        · rw [if_pos h4, if_pos (hz.1 h4)]
        · rw [if_neg h4, if_neg (fun e => h4 (hz.2 e))]
theorem de_small (s : List UInt8) (hs : s.length ≤ 60) : deN s < 18446744073709551616 ∧ (deO s).length ≤ 60 ∧ (deR s).length ≤ 60 ∧ (deP s).length ≤ 60 := by
  refine ⟨?_, ?_, ?_, ?_⟩
  · unfold deN
    split
    · have h1 := natB_lt (s.take 4)
      have h2 := Nat.pow_le_pow_right (n := 256) (by omega) (show (s.take 4).length ≤ 4 by rw [List.length_take]; omega)
      omega
    · omega
  · unfold deO dpO deK
    split
    · split
      · rw [List.length_take, List.length_take]; omega
      · simp
    · simp
  · unfold deR dpR deK
    split
    · split
      · simp only [List.length_take, List.length_drop]; omega
      · simp
    · simp
  · unfold deP
    split
    · rw [List.length_take]; omega
    · simp
theorem de_zero {s : List UInt8} (h : ¬ deE s = 0) : (⟨deN s, deO s, deR s, (deH s : Nat), deP s⟩ : En) = noEn := by
  unfold deN deO deR deH deP
  rw [if_neg h, if_neg h, if_neg h, if_neg h, if_neg h]; rfl

theorem entryParses_ct (F : Hp) (hK : Cells F ⟨0, 0, none⟩ (Sha.K.map W32)) (s : List UInt8) :
    Ct Tryd.prog 7 [Str s] [F] (fun _ : Unit => .bool true) (fun _ => True) (fun _ => [F]) := by
  obtain ⟨u, hu⟩ : ∃ y, y = s.take 60 := ⟨_, rfl⟩
  have hul : u.length ≤ 60 := by rw [hu, List.length_take]; omega
  have hw := want_ok u
  obtain ⟨hb1, hb2, hb3, hb4⟩ := de_small u hul
  refine Ct.walk Tryd.func7 rfl Tryd.ntmps7 rfl (fun w0 => ?_)
  change J _ [(0, _)] _ _ _
  refine J.seq (fun K1 hK1 => ?_)
  refine J.region ?_
  refine J.y (op_assign rfl rfl) rfl rfl rfl ?_
  refine J.nil ?_
  refine J.then_n (J.k hK1 ?_)
  refine J.keepE [(0, _)] ⟨rfl, trivial⟩ ?_
  refine J.seq (fun K2 hK2 => ?_)
  refine J.seq (fun K3 hK3 => ?_)
  refine J.region ?_
  refine J.e (op_call rfl rfl ent23 (Ct.use0 (fun F' hF => speaks17_ct F' (hK.mono (hF _ (by simp)))))) rfl rfl rfl ?_
  intro g8 _
  refine J.y ((op_not rfl rfl).as (v' := .bool false) rfl) rfl rfl rfl ?_
  refine J.nil ?_
  refine J.then_n (J.k hK3 ?_)
  refine J.keepE [(0, _), (9, _)] ⟨rfl, rfl, trivial⟩ ?_
  refine J.condF rfl rfl ?_
  refine J.skip ?_
  refine J.then_n (J.k hK2 ?_)
  refine J.keepE [(0, _)] ⟨rfl, trivial⟩ ?_
  refine J.seq (fun K4 hK4 => ?_)
  refine J.region ?_
  refine J.y (op_move rfl rfl) rfl rfl rfl ?_
  refine J.y (op_move rfl rfl) rfl rfl rfl ?_
  refine J.y (op_slen Tryd.underlying9 rfl rfl) rfl rfl rfl ?_
  refine J.y ((op_min rfl rfl rfl).as (v' := I ((min s.length 60 : Nat) : Int)) (congrArg I (by omega))) rfl rfl rfl ?_
  refine J.y ((op_sslice (l := 0) (h := min s.length 60) Tryd.underlying9 rfl rfl rfl rfl ⟨by omega, by omega⟩).as (congrArg Str ((Sha.take_min _ _).trans hu.symm))) rfl rfl rfl ?_
  refine J.y (op_assign rfl rfl) rfl rfl rfl ?_
  refine J.nil ?_
  refine J.then_n (J.k hK4 ?_)
  refine J.keepE [(0, _)] ⟨rfl, trivial⟩ ?_
  refine J.seq (fun K5 hK5 => ?_)
  refine J.region ?_
  refine J.y (op_move rfl rfl) rfl rfl rfl ?_
  refine J.e (op_call rfl rfl ent39 (Ct.use0 (fun F' hF => edecode_ct F' u))) rfl rfl rfl ?_
  intro g17 _
  refine J.y (op_move rfl rfl) rfl rfl rfl ?_
  refine J.y (op_extract (v := .agg #[N64 (deN u), Str (deO u), Str (deR u), I (deH u), Str (deP u)]) rfl rfl rfl) rfl rfl rfl ?_
  refine J.y (op_extract (v := I (deE u)) rfl rfl rfl) rfl rfl rfl ?_
  refine J.e (op_alloc rfl Tryd.zeroValue50 rfl) rfl rfl rfl ?_
  intro g3 _
  change J _ _ _ [F, blk g3 _ 50] _
  refine J.s (op_storeAll (l := [N64 0, Str [], Str [], I 0, Str []]) (i := 1) (vs := [N64 (deN u), Str (deO u), Str (deR u), I (deH u), Str (deP u)]) rfl rfl rfl rfl rfl Tryd.sizeOf50 rfl rfl) rfl rfl (fun _ _ => ?_)
  change J _ _ _ [F, blk g3 [N64 (deN u), Str (deO u), Str (deR u), I (deH u), Str (deP u)] 50] _
  refine J.y (op_assign rfl rfl) rfl rfl rfl ?_
  refine J.nil ?_
  refine J.then_n (J.k hK5 ?_)
  refine J.keepE [(0, _), (3, _), (4, _)] ⟨rfl, rfl, rfl, trivial⟩ ?_
  refine J.seq (fun K6 hK6 => ?_)
  refine J.region ?_
  refine J.y (op_assign rfl rfl) rfl rfl rfl ?_
  refine J.nil ?_
  refine J.then_n (J.k hK6 ?_)
  refine J.keepE [(0, _), (3, _), (4, _), (5, _)] ⟨rfl, rfl, rfl, rfl, trivial⟩ ?_
  refine J.cut (fun _ : Unit => [(0, Str u), (3, Ptr g3), (4, I (deE u)), (5, I (if (u.length : Int) < 53 then 3 else if 53 < (u.length : Int) then 2 else if 6 < (u.getD 36 0).toNat then 4 else if u.take 4 = noughts.take 4 then 13 else 0))]) (fun _ => [F, blk g3 [N64 (deN u), Str (deO u), Str (deR u), I (deH u), Str (deP u)] 50]) (fun _ => True) (fun K7 hK7 => ?_) ?_
  ·
    refine J.seq (fun K8 hK8 => ?_)
    refine J.region ?_
    refine J.y (op_move rfl rfl) rfl rfl rfl ?_
    refine J.y (op_slen Tryd.underlying9 rfl rfl) rfl rfl rfl ?_
    refine J.y (op_lss rfl rfl rfl) rfl rfl rfl ?_
    refine J.nil ?_
    refine J.then_n (J.k hK8 ?_)
    refine J.keepE [(0, _), (3, _), (4, _), (5, _), (22, _)] ⟨rfl, rfl, rfl, rfl, rfl, trivial⟩ ?_
    refine J.ite rfl (fun h22 => ?_) (fun h22 => ?_)
    ·
      refine J.region ?_
      refine J.y (op_assign rfl rfl) rfl rfl rfl ?_
      refine J.nil ?_
      refine J.then_n ?_
      exact J.kk () hK7 trivial ⟨rfl, rfl, rfl, by rw [if_pos (by omega)]; rfl, trivial⟩ (fun _ h => h)
    ·
      refine J.seq (fun K9 hK9 => ?_)
      refine J.region ?_
      refine J.y (op_move rfl rfl) rfl rfl rfl ?_
      refine J.y (op_slen Tryd.underlying9 rfl rfl) rfl rfl rfl ?_
      refine J.y (op_gtr rfl rfl rfl) rfl rfl rfl ?_
      refine J.nil ?_
      refine J.then_n (J.k hK9 ?_)
      refine J.keepE [(0, _), (3, _), (4, _), (5, _), (25, _)] ⟨rfl, rfl, rfl, rfl, rfl, trivial⟩ ?_
      refine J.ite rfl (fun h25 => ?_) (fun h25 => ?_)
      ·
        refine J.region ?_
        refine J.y (op_assign rfl rfl) rfl rfl rfl ?_
        refine J.nil ?_
        refine J.then_n ?_
        exact J.kk () hK7 trivial ⟨rfl, rfl, rfl, by rw [if_neg (by omega), if_pos (by omega)]; rfl, trivial⟩ (fun _ h => h)
      ·
        refine J.seq (fun K10 hK10 => ?_)
        refine J.region ?_
        refine J.y (op_move rfl rfl) rfl rfl rfl ?_
        refine J.y (op_sindex (i := 36) (c := u.getD 36 0) Tryd.underlying9 rfl rfl rfl (by rw [List.getD_eq_getElem?_getD, List.getElem?_eq_getElem (show 36 < u.length by omega)]; rfl)) rfl rfl rfl ?_
        refine J.y (op_gtr rfl rfl rfl) rfl rfl rfl ?_
        refine J.nil ?_
        refine J.then_n (J.k hK10 ?_)
        refine J.keepE [(0, _), (3, _), (4, _), (5, _), (28, _)] ⟨rfl, rfl, rfl, rfl, rfl, trivial⟩ ?_
        refine J.ite rfl (fun h28 => ?_) (fun h28 => ?_)
        ·
          refine J.region ?_
          refine J.y (op_assign rfl rfl) rfl rfl rfl ?_
          refine J.nil ?_
          refine J.then_n ?_
          exact J.kk () hK7 trivial ⟨rfl, rfl, rfl, by rw [if_neg (by omega), if_neg (by omega), if_pos (by omega)]; rfl, trivial⟩ (fun _ h => h)
        ·
          refine J.seq (fun K11 hK11 => ?_)
          refine J.draw [] [] (.y 0 (.y 1 (.y 2 (.y 3 .nil)))) Tryd.wide (by decide +kernel) (by simp) ?_
          refine J.dy rfl (op_move rfl rfl) rfl rfl rfl rfl ?_
          refine J.dy rfl ((op_sslice (l := 0) (h := 4) Tryd.underlying9 rfl rfl rfl rfl ⟨by omega, by omega⟩).as (congrArg Str List.drop_zero)) rfl rfl rfl rfl ?_
          refine J.dy rfl ((op_sslice (a := noughts) (l := 0) (h := 4) Tryd.underlying9 rfl rfl rfl rfl ⟨by omega, by decide⟩).as (congrArg Str List.drop_zero)) rfl rfl rfl rfl ?_
          refine J.dy rfl (op_seq rfl rfl rfl) rfl rfl rfl rfl ?_
          refine J.dnil ?_
          refine J.then_n (J.k hK11 ?_)
          refine J.keepE [(0, _), (3, _), (4, _), (5, _), (32, _)] ⟨rfl, rfl, rfl, rfl, rfl, trivial⟩ ?_
          refine J.ite rfl (fun h32 => ?_) (fun h32 => ?_)
          ·
            refine J.region ?_
            refine J.y (op_assign rfl rfl) rfl rfl rfl ?_
            refine J.nil ?_
            refine J.then_n ?_
            exact J.kk () hK7 trivial ⟨rfl, rfl, rfl, by rw [if_neg (by omega), if_neg (by omega), if_neg (by omega), if_pos h32]; rfl, trivial⟩ (fun _ h => h)
          ·
            refine J.skip ?_
            refine J.then_n ?_
            exact J.kk () hK7 trivial ⟨rfl, rfl, rfl, by rw [if_neg (by omega), if_neg (by omega), if_neg (by omega), if_neg h32]; rfl, trivial⟩ (fun _ h => h)
  rintro _ _
  refine J.seq (fun K12 hK12 => ?_)
  refine J.seq (fun K13 hK13 => ?_)
  refine J.region ?_
  refine J.y (op_move rfl rfl) rfl rfl rfl ?_
  refine J.y (op_move rfl rfl) rfl rfl rfl ?_
  refine J.y ((op_neq rfl rfl rfl).as (v' := .bool false) (congrArg Value.bool (decide_eq_false (fun h => h hw)))) rfl rfl rfl ?_
  refine J.nil ?_
  refine J.then_n (J.k hK13 ?_)
  refine J.keepE [(0, _), (3, _), (4, _), (35, _)] ⟨rfl, rfl, rfl, rfl, trivial⟩ ?_
  refine J.condF rfl rfl ?_
  refine J.skip ?_
  refine J.then_n (J.k hK12 ?_)
  refine J.keepE [(0, _), (3, _), (4, _)] ⟨rfl, rfl, rfl, trivial⟩ ?_
  refine J.seq (fun K14 hK14 => ?_)
  refine J.region ?_
  refine J.y (op_loadBA 1 rfl rfl rfl Tryd.isAgg50 Tryd.sizeOf50 rfl) rfl rfl rfl ?_
  refine J.e (op_call rfl rfl ent34 (Ct.use0 (fun F' hF => eencode_ct F' (deN u) (deO u) (deR u) (deH u) (deP u) hb1 (by omega) (by omega) (by omega)))) rfl rfl rfl ?_
  intro g38 _
  refine J.y (op_move rfl rfl) rfl rfl rfl ?_
  refine J.y (op_extract (v := Str (enEnc (deN u) (deO u) (deR u) (deH u) (deP u))) rfl rfl rfl) rfl rfl rfl ?_
  refine J.y (op_extract (v := I (enErr (deN u) (deO u) (deR u) (deH u) (deP u))) rfl rfl rfl) rfl rfl rfl ?_
  refine J.y (op_assign rfl rfl) rfl rfl rfl ?_
  refine J.y (op_assign rfl rfl) rfl rfl rfl ?_
  refine J.nil ?_
  refine J.then_n (J.k hK14 ?_)
  refine J.keepE [(0, _), (3, _), (4, _), (6, _), (7, _)] ⟨rfl, rfl, rfl, rfl, rfl, trivial⟩ ?_
  refine J.seq (fun K15 hK15 => ?_)
  refine J.region ?_
  refine J.y (op_move rfl rfl) rfl rfl rfl ?_
  refine J.y (op_neq rfl rfl rfl) rfl rfl rfl ?_
  refine J.y (op_move rfl rfl) rfl rfl rfl ?_
  refine J.split (d := 43) rfl (fun h43 => ?_) (fun h43 => ?_)
  ·
    refine J.yg (Wan.is rfl rfl rfl rfl rfl) (op_loadBA 1 rfl rfl rfl Tryd.isAgg50 Tryd.sizeOf50 rfl) rfl rfl ?_
    refine J.yg (Wan.is rfl rfl rfl rfl rfl) (op_buildStruct (l := []) (vs := []) (places := [(0, 1), (1, 3), (4, 1)]) (r := [N64 0, Str [], Str [], I 0, Str []]) rfl rfl rfl Tryd.underlying50 Tryd.zeroValue50 (fun _ => by kernel_rfl) rfl) rfl rfl ?_
    refine J.yg (Wan.is rfl rfl rfl rfl rfl) ((op_eqS rfl rfl rfl (by kernel_rfl) (eqEn ⟨deN u, deO u, deR u, (deH u : Nat), deP u⟩ noEn)).as (v' := .bool true) (by rw [decide_eq_true (de_zero h43)])) rfl rfl ?_
    refine J.y (op_pickT rfl rfl rfl) rfl rfl rfl ?_
    refine J.y (op_move rfl rfl) rfl rfl rfl ?_
    refine J.no (Wan.is rfl rfl rfl rfl rfl) rfl rfl ?_
    refine J.no (Wan.is rfl rfl rfl rfl rfl) rfl rfl ?_
    refine J.no (Wan.is rfl rfl rfl rfl rfl) rfl rfl ?_
    refine J.no (Wan.un rfl rfl rfl rfl) rfl rfl ?_
    refine J.no (Wan.un rfl rfl rfl rfl) rfl rfl ?_
    refine J.no (Wan.is rfl rfl rfl rfl rfl) rfl rfl ?_
    refine J.no (Wan.is rfl rfl rfl rfl rfl) rfl rfl ?_
    refine J.no (Wan.un rfl rfl rfl rfl) rfl rfl ?_
    refine J.no (Wan.un rfl rfl rfl rfl) rfl rfl ?_
    refine J.no (Wan.un rfl rfl rfl rfl) rfl rfl ?_
    refine J.no (Wan.is rfl rfl rfl rfl rfl) rfl rfl ?_
    refine J.y (op_pickT rfl rfl rfl) rfl rfl rfl ?_
    refine J.y (op_assign rfl rfl) rfl rfl rfl ?_
    refine J.nil ?_
    refine J.then_n (J.k hK15 ?_)
    refine J.keepE [(2, _)] ⟨rfl, trivial⟩ ?_
    refine J.ret ?_
    exact J.done (fun _ _ h => h) (res1 rfl rfl) (retOk () rfl trivial [0] rfl (by decide))
  ·
    refine J.no (Wan.is rfl rfl rfl rfl rfl) rfl rfl ?_
    refine J.no (Wan.is rfl rfl rfl rfl rfl) rfl rfl ?_
    refine J.no (Wan.is rfl rfl rfl rfl rfl) rfl rfl ?_
    refine J.y (op_pickF rfl rfl rfl) rfl rfl rfl ?_
    refine J.y (op_move rfl rfl) rfl rfl rfl ?_
    refine J.yg (Wan.is rfl rfl rfl rfl rfl) (op_move rfl rfl) rfl rfl ?_
    refine J.yg (Wan.is rfl rfl rfl rfl rfl) ((op_eql rfl rfl rfl).as (v' := .bool true) (congrArg Value.bool (decide_eq_true (by omega)))) rfl rfl ?_
    refine J.yg (Wan.is rfl rfl rfl rfl rfl) (op_move rfl rfl) rfl rfl ?_
    refine J.yg (Wan.is rfl rfl rfl rfl rfl) (op_move rfl rfl) rfl rfl ?_
    refine J.yg (Wan.is rfl rfl rfl rfl rfl) ((op_eql rfl rfl rfl).as (v' := .bool true) (congrArg Value.bool (decide_eq_true ((enc_de (by omega)).1)))) rfl rfl ?_
    refine J.yg (Wan.is rfl rfl rfl rfl rfl) (op_pickT rfl rfl rfl) rfl rfl ?_
    refine J.yg (Wan.is rfl rfl rfl rfl rfl) (op_move rfl rfl) rfl rfl ?_
    refine J.yg (Wan.is rfl rfl rfl rfl rfl) (op_move rfl rfl) rfl rfl ?_
    refine J.yg (Wan.is rfl rfl rfl rfl rfl) (op_move rfl rfl) rfl rfl ?_
    refine J.yg (Wan.is rfl rfl rfl rfl rfl) ((op_seq rfl rfl rfl).as (v' := .bool true) (congrArg Value.bool (decide_eq_true ((enc_de (by omega)).2)))) rfl rfl ?_
    refine J.yg (Wan.is rfl rfl rfl rfl rfl) (op_pickT rfl rfl rfl) rfl rfl ?_
    refine J.y (op_pickF rfl rfl rfl) rfl rfl rfl ?_
    refine J.y (op_assign rfl rfl) rfl rfl rfl ?_
    refine J.nil ?_
    refine J.then_n (J.k hK15 ?_)
    refine J.keepE [(2, _)] ⟨rfl, trivial⟩ ?_
    refine J.ret ?_
    exact J.done (fun _ _ h => h) (res1 rfl rfl) (retOk () rfl trivial [0] rfl (by decide))

end Go.Proofs.YtlopnfgacopkbaaDoor
