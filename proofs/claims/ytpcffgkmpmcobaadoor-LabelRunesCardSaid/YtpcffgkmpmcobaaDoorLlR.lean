/- A part of the proof: contracts of functions of the program, each for every state of the heaps that it names. -/
import Derived.Test.YtpcffgkmpmcobaaDoorLsp
import Derived.Test.YtpcffgkmpmcobaaDoorRfr
set_option linter.unusedSimpArgs false
set_option linter.unusedVariables false
namespace Go.Proofs.YtpcffgkmpmcobaaDoor
open Go Go.Fw
set_option maxRecDepth 100000
set_option maxHeartbeats 1000000
theorem ent15 : Enters Tryd.prog 15 := Enters.of Tryd.func15 rfl (by kernel_rfl)
theorem ent18 : Enters Tryd.prog 18 := Enters.of Tryd.func18 rfl (by kernel_rfl)
theorem ent22 : Enters Tryd.prog 22 := Enters.of Tryd.func22 rfl (by kernel_rfl)

theorem labelRunes_ct (F : Hp) (hA : Cells F ⟨0, 0, none⟩ alphaV) (hT : TabsF F) (s : List UInt8) (r : Int) : Ct Tryd.prog 4 [Str (s), I (r)] [F] (fun _ : Unit => .bool true) (fun _ => True) (fun _ => [F]) := by
  refine Ct.walk Tryd.func4 rfl Tryd.ntmps4 rfl (fun w0 hw0 => ?_)
  change J _ [(0, _), (1, _)] _ _ _
  refine J.seq (fun K1 hK1 => ?_)
  refine J.region ?_
  refine J.y (op_assign rfl rfl) rfl rfl rfl ?_
  refine J.nil ?_
  refine J.then_n (J.k hK1 ?_)
  refine J.keepE [(0, _), (1, _)] ⟨rfl, rfl, trivial⟩ ?_
  refine J.seq (fun K2 hK2 => ?_)
  refine J.seq (fun K3 hK3 => ?_)
  refine J.region ?_
  refine J.e (op_call rfl rfl ent15 (Ct.use0 (fun F' hF => speaks_ct F' (hA.mono (hF F (by simp))) (hT.mono (hF F (by simp)))))) rfl rfl rfl ?_
  intro g11 _
  refine J.y (op_not rfl rfl) rfl rfl rfl ?_
  refine J.nil ?_
  refine J.then_n (J.k hK3 ?_)
  refine J.keepE [(0, _), (1, _), (12, _)] ⟨rfl, rfl, rfl, trivial⟩ ?_
  refine J.condF rfl rfl ?_
  refine J.skip ?_
  refine J.then_n (J.k hK2 ?_)
  refine J.keepE [(0, _), (1, _)] ⟨rfl, rfl, trivial⟩ ?_
  refine J.seq (fun K4 hK4 => ?_)
  refine J.region ?_
  refine J.y (op_move rfl rfl) rfl rfl rfl ?_
  refine J.y (op_move rfl rfl) rfl rfl rfl ?_
  refine J.y (op_slen Tryd.underlying9 rfl rfl) rfl rfl rfl ?_
  refine J.y ((op_min rfl rfl rfl).as (v' := I ((min s.length 200 : Nat) : Int)) (congrArg I (by omega))) rfl rfl rfl ?_
  refine J.y ((op_sslice (a := s) (l := 0) (h := (min s.length 200)) Tryd.underlying9 rfl rfl rfl rfl ⟨by first | omega | (simp only [List.length_append, List.length_cons, List.length_nil, List.length_take, List.length_drop] at *; omega), by first | omega | (simp only [List.length_append, List.length_cons, List.length_nil, List.length_take, List.length_drop] at *; omega)⟩).as (v' := Str (s.take (min s.length 200))) (congrArg Str List.drop_zero)) rfl rfl rfl ?_
  refine J.y (op_assign rfl rfl) rfl rfl rfl ?_
  refine J.nil ?_
  refine J.then_n (J.k hK4 ?_)
  refine J.keepE [(0, _), (1, _)] ⟨rfl, rfl, trivial⟩ ?_
  refine J.seq (fun K5 hK5 => ?_)
  obtain ⟨t, htt⟩ : ∃ t, s.take (min s.length 200) = t := ⟨_, rfl⟩
  rw [htt]
  have htl : t.length ≤ 200 := by rw [← htt, List.length_take]; omega
  refine J.region ?_
  refine J.y (op_move rfl rfl) rfl rfl rfl ?_
  refine J.e (op_call rfl rfl ent18 (Ct.use (new := fun x : Option Addr × Nat × Hp => [x.2.2]) (fun F' hF => runesr_ct F' t (by omega)))) rfl rfl rfl ?_
  rintro ⟨A20, c20, m20⟩ h20
  try dsimp only at h20
  change J _ ((20, .tuple #[.slice A20 (rlo t).length c20, .bool (vld t)]) :: _) _ [F, m20] _
  refine J.y (op_move rfl rfl) rfl rfl rfl ?_
  refine J.y (op_extract (v := .slice A20 ((rlo t).length) c20) rfl rfl rfl) rfl rfl rfl ?_
  refine J.y (op_extract (v := .bool (vld t)) rfl rfl rfl) rfl rfl rfl ?_
  refine J.y (op_assign rfl rfl) rfl rfl rfl ?_
  refine J.y (op_assign rfl rfl) rfl rfl rfl ?_
  refine J.nil ?_
  refine J.then_n (J.k hK5 ?_)
  refine J.keepE [(0, _), (1, _), (5, _), (6, _)] ⟨rfl, rfl, rfl, rfl, trivial⟩ ?_
  refine J.seq (fun K6 hK6 => ?_)
  refine J.region ?_
  refine J.y (op_move rfl rfl) rfl rfl rfl ?_
  refine J.e (op_call rfl rfl ent20 (Ct.use0 (fun F' hF => runes_ct F' (hT.mono (hF F (by simp))) t (by omega)))) rfl rfl rfl ?_
  intro g25 _
  refine J.y (op_move rfl rfl) rfl rfl rfl ?_
  refine J.y (op_extract (v := I ((if vld t = true then (rl t).length else 0 : Nat) : Int)) rfl rfl rfl) rfl rfl rfl ?_
  refine J.y (op_extract (v := .bool (vld t)) rfl rfl rfl) rfl rfl rfl ?_
  refine J.y (op_assign rfl rfl) rfl rfl rfl ?_
  refine J.y (op_assign rfl rfl) rfl rfl rfl ?_
  refine J.nil ?_
  refine J.then_n (J.k hK6 ?_)
  refine J.keepE [(0, _), (1, _), (5, _), (6, _), (7, _), (8, _)] ⟨rfl, rfl, rfl, rfl, rfl, rfl, trivial⟩ ?_
  refine J.seq (fun K7 hK7 => ?_)
  refine J.seq (fun K8 hK8 => ?_)
  refine J.region ?_
  refine J.y (op_move rfl rfl) rfl rfl rfl ?_
  refine J.y (op_move rfl rfl) rfl rfl rfl ?_
  refine J.y ((op_neqB Tryd.underlying4 rfl rfl rfl).as (v' := .bool false) (by simp)) rfl rfl rfl ?_
  refine J.y (op_move rfl rfl) rfl rfl rfl ?_
  refine J.yg (Wan.is rfl rfl rfl rfl rfl) (op_move rfl rfl) rfl rfl ?_
  refine J.yg (Wan.is rfl rfl rfl rfl rfl) (op_move rfl rfl) rfl rfl ?_
  refine J.yg (Wan.is rfl rfl rfl rfl rfl) (op_len Tryd.underlying27 rfl rfl) rfl rfl ?_
  refine J.yg (Wan.is rfl rfl rfl rfl rfl) ((op_neq rfl rfl rfl).as (v' := .bool false) (congrArg Value.bool (decide_eq_false (by rw [rlo_len]; exact fun h => h rfl)))) rfl rfl ?_
  refine J.y (op_pickF rfl rfl rfl) rfl rfl rfl ?_
  refine J.nil ?_
  refine J.then_n (J.k hK8 ?_)
  refine J.keepE [(0, _), (1, _), (5, _), (6, _), (36, _)] ⟨rfl, rfl, rfl, rfl, rfl, trivial⟩ ?_
  refine J.condF rfl rfl ?_
  refine J.skip ?_
  refine J.then_n (J.k hK7 ?_)
  refine J.keepE [(0, _), (1, _), (5, _), (6, _)] ⟨rfl, rfl, rfl, rfl, trivial⟩ ?_
  refine J.seq (fun K9 hK9 => ?_)
  refine J.region ?_
  refine J.y (op_move rfl rfl) rfl rfl rfl ?_
  obtain ⟨q, hq⟩ : ∃ q : Nat, r % 2 ^ 21 = (q : Int) := Int.eq_ofNat_of_zero_le (Int.emod_nonneg _ (by decide))
  have hql : q < 2097152 := by have := Int.emod_lt_of_pos r (show (0 : Int) < 2 ^ 21 by decide); rw [hq] at this; omega
  refine J.y ((op_maskI 21 rfl rfl rfl (by decide) (by decide)).as (v' := I ((q : Nat) : Int)) (congrArg I hq)) rfl rfl rfl ?_
  refine J.y (op_assign rfl rfl) rfl rfl rfl ?_
  refine J.nil ?_
  refine J.then_n (J.k hK9 ?_)
  refine J.keepE [(0, _), (1, _), (5, _), (6, _)] ⟨rfl, rfl, rfl, rfl, trivial⟩ ?_
  refine J.seq (fun K10 hK10 => ?_)
  refine J.seq (fun K11 hK11 => ?_)
  refine J.region ?_
  refine J.y (op_move rfl rfl) rfl rfl rfl ?_
  refine J.y (op_cvN_i32 rfl rfl Tryd.underlying3 Tryd.underlying21 (by first | omega | (simp only [List.length_append, List.length_cons, List.length_nil, List.length_take, List.length_drop] at *; omega))) rfl rfl rfl ?_
  refine J.e (op_call rfl rfl ent21 (Ct.use0 (fun F' hF => small_ct F' (hA.mono (hF F (by simp))) q (by omega)))) rfl rfl rfl ?_
  intro g41 _
  have hsq := small_le q
  refine J.y (op_cvR_i64 rfl rfl Tryd.underlying21 Tryd.underlying3 (by first | omega | (simp only [List.length_append, List.length_cons, List.length_nil, List.length_take, List.length_drop] at *; omega))) rfl rfl rfl ?_
  refine J.y (op_move rfl rfl) rfl rfl rfl ?_
  refine J.e (op_call rfl rfl ent19 (Ct.use0 (fun F' hF => smallr_ct F' q (by omega)))) rfl rfl rfl ?_
  intro g44 _
  refine J.y ((op_neq rfl rfl rfl).as (v' := .bool false) (congrArg Value.bool (decide_eq_false (fun h => h rfl)))) rfl rfl rfl ?_
  refine J.nil ?_
  refine J.then_n (J.k hK11 ?_)
  refine J.keepE [(0, _), (5, _), (6, _), (45, _)] ⟨rfl, rfl, rfl, rfl, trivial⟩ ?_
  refine J.condF rfl rfl ?_
  refine J.skip ?_
  refine J.then_n (J.k hK10 ?_)
  refine J.keepE [(0, _), (5, _), (6, _)] ⟨rfl, rfl, rfl, trivial⟩ ?_
  refine J.seq (fun K12 hK12 => ?_)
  refine J.seq (fun K13 hK13 => ?_)
  refine J.region ?_
  refine J.y (op_move rfl rfl) rfl rfl rfl ?_
  refine J.y (op_not rfl rfl) rfl rfl rfl ?_
  refine J.nil ?_
  refine J.then_n (J.k hK13 ?_)
  refine J.keepE [(0, _), (5, _), (47, _)] ⟨rfl, rfl, rfl, trivial⟩ ?_
  refine J.cond rfl (fun h47 => ?_) (fun h47 => ?_)
  ·
    refine J.seq (fun K14 hK14 => ?_)
    refine J.region ?_
    refine J.y (op_assign rfl rfl) rfl rfl rfl ?_
    refine J.nil ?_
    refine J.then_n (J.k hK14 ?_)
    refine J.keepE [(4, _)] ⟨rfl, trivial⟩ ?_
    refine J.ret ?_
    refine J.then_r ?_
    exact J.done hw0 (fun _ _ h => h) (res1 rfl rfl) (retOk () rfl trivial [0] rfl (by decide))
  ·
    refine J.skip ?_
    refine J.then_n (J.k hK12 ?_)
    refine J.keepE [(0, _), (5, _)] ⟨rfl, rfl, trivial⟩ ?_
    refine J.seq (fun K15 hK15 => ?_)
    refine J.region ?_
    refine J.y (op_assign rfl rfl) rfl rfl rfl ?_
    refine J.nil ?_
    refine J.then_n (J.k hK15 ?_)
    refine J.keepE [(0, _), (5, _), (9, _)] ⟨rfl, rfl, rfl, trivial⟩ ?_
    refine J.seq (fun K16 hK16 => ?_)
    refine J.seq (fun K17 hK17 => ?_)
    refine J.region ?_
    refine J.y (op_assign rfl rfl) rfl rfl rfl ?_
    refine J.nil ?_
    refine J.then_n (J.k hK17 ?_)
    refine J.keepE [(0, _), (5, _), (9, _), (10, _)] ⟨rfl, rfl, rfl, rfl, trivial⟩ ?_
    refine J.block ?_
    refine J.loop (X := Nat × Nat) (fun ζ => [(0, Str (t)), (5, .slice A20 ((rlo t).length) c20), (9, I ((ζ.2 : Nat) : Int)), (10, I ((ζ.1 : Nat) : Int))]) (fun ζ => [F, m20]) (fun ζ => ζ.1 ≤ (rlo t).length ∧ ζ.2 < 8 ∧ alph ((rlo t).take ζ.1) 0 = ζ.2) (fun ζ => (rlo t).length - ζ.1) (0, 0) (⟨Nat.zero_le _, by decide, rfl⟩) ⟨rfl, rfl, rfl, rfl, trivial⟩ (fun _ h => h) ?_
    rintro ⟨i, b⟩ ⟨hi, hb, ha⟩ I0 hI0
    dsimp only at hi hb ha ⊢
    refine J.seq (fun K18 hK18 => ?_)
    refine J.seq (fun K19 hK19 => ?_)
    refine J.region ?_
    refine J.y (op_move rfl rfl) rfl rfl rfl ?_
    refine J.y (op_move rfl rfl) rfl rfl rfl ?_
    refine J.y (op_len Tryd.underlying27 rfl rfl) rfl rfl rfl ?_
    refine J.y (op_lss rfl rfl rfl) rfl rfl rfl ?_
    refine J.nil ?_
    refine J.then_n (J.k hK19 ?_)
    refine J.keepE [(0, _), (5, _), (9, _), (10, _), (51, _)] ⟨rfl, rfl, rfl, rfl, rfl, trivial⟩ ?_
    refine J.ite rfl (fun h51 => ?_) (fun h51 => ?_)
    ·
      have hlt := rlo_lt t i
      have hle := rlo_le t
      refine J.skip ?_
      refine J.then_n (J.k hK18 ?_)
      refine J.keepE [(0, _), (5, _), (9, _), (10, _)] ⟨rfl, rfl, rfl, rfl, trivial⟩ ?_
      refine J.seq (fun K20 hK20 => ?_)
      refine J.block ?_
      refine J.region ?_
      refine J.y (op_move rfl rfl) rfl rfl rfl ?_
      refine J.y (op_move rfl rfl) rfl rfl rfl ?_
      refine J.y (op_move rfl rfl) rfl rfl rfl ?_
      refine J.y (op_indexAddr (i := i) rfl rfl rfl Tryd.underlying27 Tryd.sizeOf3 h20.sl (by first | omega | (simp only [List.length_append, List.length_cons, List.length_nil, List.length_take, List.length_drop] at *; omega))) rfl rfl rfl ?_
      refine J.y (op_load rfl rfl Tryd.isAgg3 (m := m20) (by simp) (h20.sl.elem (natsV_get (by first | omega | (simp only [List.length_append, List.length_cons, List.length_nil, List.length_take, List.length_drop] at *; omega))))) rfl rfl rfl ?_
      refine J.e (op_call rfl rfl ent22 (Ct.use0 (fun F' hF => letterr_ct F' ((rlo t).getD i 0) (by omega)))) rfl rfl rfl ?_
      intro g59 _
      have hll := lett_le ((rlo t).getD i 0)
      refine J.y (op_orI (a := b) (b := lett ((rlo t).getD i 0)) rfl rfl rfl (by first | omega | (simp only [List.length_append, List.length_cons, List.length_nil, List.length_take, List.length_drop] at *; omega))) rfl rfl rfl ?_
      refine J.y (op_assign rfl rfl) rfl rfl rfl ?_
      refine J.nil ?_
      refine J.blk_n ?_
      refine J.then_n (J.k hK20 ?_)
      refine J.keepE [(0, _), (5, _), (9, _), (10, _)] ⟨rfl, rfl, rfl, rfl, trivial⟩ ?_
      refine J.region ?_
      refine J.y (op_move rfl rfl) rfl rfl rfl ?_
      refine J.y ((op_add rfl rfl rfl (by first | omega | (simp only [List.length_append, List.length_cons, List.length_nil, List.length_take, List.length_drop] at *; omega))).as (v' := I ((i + 1 : Nat) : Int)) (congrArg I (by omega))) rfl rfl rfl ?_
      refine J.y (op_assign rfl rfl) rfl rfl rfl ?_
      refine J.nil ?_
      refine J.then_n ?_
      exact J.kk (i + 1, b ||| (lett ((rlo t).getD i 0))) (fun η (hη : _ ∧ (rlo t).length - η.1 < (rlo t).length - i) => hI0 η hη.1 hη.2) ⟨⟨by dsimp only; omega, Nat.or_lt_two_pow (n := 3) hb hll, alph_take (by omega) ha⟩, by first | omega | (dsimp only; omega)⟩ ⟨rfl, rfl, rfl, rfl, trivial⟩ (fun _ h => h)
    ·
      refine J.exit ?_
      refine J.then_x ?_
      refine J.then_x ?_
      refine J.blk_eq ?_
      refine J.then_n (J.k hK16 ?_)
      refine J.keepE [(0, _), (9, _)] ⟨rfl, rfl, trivial⟩ ?_
      refine J.seq (fun K21 hK21 => ?_)
      refine J.region ?_
      refine J.y (op_move rfl rfl) rfl rfl rfl ?_
      refine J.e (op_call rfl rfl ent23 (Ct.use0 (fun F' hF => alph_ct F' (hA.mono (hF F (by simp))) t (by omega)))) rfl rfl rfl ?_
      intro g62 _
      refine J.y (op_move rfl rfl) rfl rfl rfl ?_
      refine J.y (op_eql rfl rfl rfl) rfl rfl rfl ?_
      refine J.y (op_assign rfl rfl) rfl rfl rfl ?_
      refine J.nil ?_
      refine J.then_n (J.k hK21 ?_)
      refine J.keepE [(4, _)] ⟨rfl, trivial⟩ ?_
      refine J.ret ?_
      exact J.done hw0 (fun _ _ h => h) (res1 rfl rfl) (retOk () (by rw [List.take_of_length_le (by omega)] at ha; unfold rlo at ha; rw [if_pos (by simpa using h47)] at ha; rw [ha, decide_eq_true rfl]) trivial [0] rfl (by decide))

end Go.Proofs.YtpcffgkmpmcobaaDoor
