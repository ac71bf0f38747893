/- A part of the proof: contracts of functions of the program, each for every state of the heaps that it names. -/
import Derived.Test.YtpcffgkmpmcobaaDoorLab
set_option linter.unusedSimpArgs false
set_option linter.unusedVariables false
namespace Go.Proofs.YtpcffgkmpmcobaaDoor
open Go Go.Fw
set_option maxRecDepth 100000
set_option maxHeartbeats 1000000

theorem next_ct (F : Hp) (s : List UInt8) (hs : s.length ≤ 1000000) : Ct Tryd.prog 83 [Str (s)] [F] (fun _ : Unit => .tuple #[I (((nx s).1 : Nat) : Int), I (((nx s).2 : Nat) : Int)]) (fun _ => True) (fun _ => [F]) := by
  refine Ct.walk Tryd.func83 rfl Tryd.ntmps83 rfl (fun w0 hw0 => ?_)
  change J _ [(0, _)] _ _ _
  refine J.seq (fun K1 hK1 => ?_)
  refine J.region ?_
  refine J.y (op_assign rfl rfl) rfl rfl rfl ?_
  refine J.y (op_assign rfl rfl) rfl rfl rfl ?_
  refine J.nil ?_
  refine J.then_n (J.k hK1 ?_)
  refine J.keepE [(0, _)] ⟨rfl, trivial⟩ ?_
  refine J.seq (fun K2 hK2 => ?_)
  refine J.seq (fun K3 hK3 => ?_)
  refine J.region ?_
  refine J.y (op_move rfl rfl) rfl rfl rfl ?_
  refine J.y (op_slen Tryd.underlying9 rfl rfl) rfl rfl rfl ?_
  refine J.y (op_eql rfl rfl rfl) rfl rfl rfl ?_
  refine J.nil ?_
  refine J.then_n (J.k hK3 ?_)
  refine J.keepE [(0, _), (11, _)] ⟨rfl, rfl, trivial⟩ ?_
  refine J.ite rfl (fun h11 => ?_) (fun h11 => ?_)
  ·
    refine J.seq (fun K4 hK4 => ?_)
    refine J.region ?_
    refine J.y (op_assign rfl rfl) rfl rfl rfl ?_
    refine J.y (op_assign rfl rfl) rfl rfl rfl ?_
    refine J.nil ?_
    refine J.then_n (J.k hK4 ?_)
    refine J.keepE [(2, _), (3, _)] ⟨rfl, rfl, trivial⟩ ?_
    refine J.ret ?_
    refine J.then_r ?_
    exact J.done hw0 (fun _ _ h => h) (res2 rfl rfl rfl) (retOk () (by rw [show nx s = (0, 0) by unfold nx; rw [if_pos (.inl (List.eq_nil_of_length_eq_zero (by omega)))]] <;> rfl) trivial [0] rfl (by decide))
  ·
    refine J.skip ?_
    refine J.then_n (J.k hK2 ?_)
    refine J.keepE [(0, _)] ⟨rfl, trivial⟩ ?_
    refine J.seq (fun K5 hK5 => ?_)
    have hl0 : 0 < s.length := by omega
    have hc0 := bt_lt s 0
    refine J.region ?_
    refine J.y (op_move rfl rfl) rfl rfl rfl ?_
    refine J.y (op_sindex (c := s.getD 0 0) Tryd.underlying9 rfl rfl rfl (getSome 0 (by first | omega | (simp only [List.length_append, List.length_cons, List.length_nil, List.length_take, List.length_drop] at *; omega)))) rfl rfl rfl ?_
    refine J.y (op_cv_u8_i64 rfl rfl Tryd.underlying5 Tryd.underlying3) rfl rfl rfl ?_
    refine J.y (op_assign rfl rfl) rfl rfl rfl ?_
    refine J.nil ?_
    refine J.then_n (J.k hK5 ?_)
    refine J.keepE [(0, _), (4, _)] ⟨rfl, rfl, trivial⟩ ?_
    refine J.seq (fun K6 hK6 => ?_)
    refine J.seq (fun K7 hK7 => ?_)
    refine J.region ?_
    refine J.y (op_move rfl rfl) rfl rfl rfl ?_
    refine J.y (op_lss rfl rfl rfl) rfl rfl rfl ?_
    refine J.nil ?_
    refine J.then_n (J.k hK7 ?_)
    refine J.keepE [(0, _), (4, _), (16, _)] ⟨rfl, rfl, rfl, trivial⟩ ?_
    refine J.ite rfl (fun h16 => ?_) (fun h16 => ?_)
    ·
      refine J.seq (fun K8 hK8 => ?_)
      refine J.region ?_
      refine J.y (op_move rfl rfl) rfl rfl rfl ?_
      refine J.y (op_assign rfl rfl) rfl rfl rfl ?_
      refine J.y (op_assign rfl rfl) rfl rfl rfl ?_
      refine J.nil ?_
      refine J.then_n (J.k hK8 ?_)
      refine J.keepE [(2, _), (3, _)] ⟨rfl, rfl, trivial⟩ ?_
      refine J.ret ?_
      refine J.then_r ?_
      exact J.done hw0 (fun _ _ h => h) (res2 rfl rfl rfl) (retOk () (by rw [nx_one hl0 (by unfold bt; omega)] <;> rfl) trivial [0] rfl (by decide))
    ·
      refine J.skip ?_
      refine J.then_n (J.k hK6 ?_)
      refine J.keepE [(0, _), (4, _)] ⟨rfl, rfl, trivial⟩ ?_
      refine J.seq (fun K9 hK9 => ?_)
      have ha : ¬ bt s 0 < 128 := fun h => h16 (by exact_mod_cast h)
      refine J.region ?_
      refine J.y (op_assign rfl rfl) rfl rfl rfl ?_
      refine J.y (op_assign rfl rfl) rfl rfl rfl ?_
      refine J.nil ?_
      refine J.then_n (J.k hK9 ?_)
      refine J.keepE [(0, _), (4, _), (5, _), (6, _)] ⟨rfl, rfl, rfl, rfl, trivial⟩ ?_
      refine J.cut (X := Nat × Nat) (fun ζ => [(0, Str (s)), (5, I ((ζ.1 : Nat) : Int)), (6, I ((ζ.2 : Nat) : Int))]) (fun ζ => [F]) (fun ζ => nxN s ζ.1 ζ.2) (fun K10 hK10 => ?_) ?_
      ·
        refine J.seq (fun K11 hK11 => ?_)
        refine J.region ?_
        refine J.y (op_move rfl rfl) rfl rfl rfl ?_
        refine J.y (op_geq rfl rfl rfl) rfl rfl rfl ?_
        refine J.y (op_move rfl rfl) rfl rfl rfl ?_
        refine J.split (d := 20) rfl (fun h20 => ?_) (fun h20 => ?_)
        ·
          refine J.yg (Wan.is rfl rfl rfl rfl rfl) (op_move rfl rfl) rfl rfl ?_
          refine J.yg (Wan.is rfl rfl rfl rfl rfl) (op_lss rfl rfl rfl) rfl rfl ?_
          refine J.y (op_pickT rfl rfl rfl) rfl rfl rfl ?_
          refine J.nil ?_
          refine J.then_n (J.k hK11 ?_)
          refine J.keepE [(0, _), (4, _), (5, _), (6, _), (23, _)] ⟨rfl, rfl, rfl, rfl, rfl, trivial⟩ ?_
          refine J.ite rfl (fun h23 => ?_) (fun h23 => ?_)
          ·
            refine J.region ?_
            refine J.y (op_move rfl rfl) rfl rfl rfl ?_
            refine J.y ((op_sub rfl rfl rfl (by first | omega | (refine ⟨?_, ?_⟩ <;> omega))).as (v' := I (((s.getD 0 0).toNat - 192 : Nat) : Int)) (congrArg I (by omega))) rfl rfl rfl ?_
            refine J.y (op_assign rfl rfl) rfl rfl rfl ?_
            refine J.y (op_assign rfl rfl) rfl rfl rfl ?_
            refine J.nil ?_
            refine J.then_n ?_
            exact J.kk (2, (s.getD 0 0).toNat - 192) hK10 (by unfold nxN bt; dsimp only; omega) ⟨rfl, rfl, rfl, trivial⟩ (fun _ h => h)
          ·
            refine J.seq (fun K12 hK12 => ?_)
            refine J.region ?_
            refine J.y (op_move rfl rfl) rfl rfl rfl ?_
            refine J.y (op_geq rfl rfl rfl) rfl rfl rfl ?_
            refine J.y (op_move rfl rfl) rfl rfl rfl ?_
            refine J.split (d := 28) rfl (fun h28 => ?_) (fun h28 => ?_)
            ·
              refine J.yg (Wan.is rfl rfl rfl rfl rfl) (op_move rfl rfl) rfl rfl ?_
              refine J.yg (Wan.is rfl rfl rfl rfl rfl) (op_lss rfl rfl rfl) rfl rfl ?_
              refine J.y (op_pickT rfl rfl rfl) rfl rfl rfl ?_
              refine J.nil ?_
              refine J.then_n (J.k hK12 ?_)
              refine J.keepE [(0, _), (4, _), (5, _), (6, _), (31, _)] ⟨rfl, rfl, rfl, rfl, rfl, trivial⟩ ?_
              refine J.ite rfl (fun h31 => ?_) (fun h31 => ?_)
              ·
                refine J.region ?_
                refine J.y (op_move rfl rfl) rfl rfl rfl ?_
                refine J.y ((op_sub rfl rfl rfl (by first | omega | (refine ⟨?_, ?_⟩ <;> omega))).as (v' := I (((s.getD 0 0).toNat - 224 : Nat) : Int)) (congrArg I (by omega))) rfl rfl rfl ?_
                refine J.y (op_assign rfl rfl) rfl rfl rfl ?_
                refine J.y (op_assign rfl rfl) rfl rfl rfl ?_
                refine J.nil ?_
                refine J.then_n ?_
                exact J.kk (3, (s.getD 0 0).toNat - 224) hK10 (by unfold nxN bt; dsimp only; omega) ⟨rfl, rfl, rfl, trivial⟩ (fun _ h => h)
              ·
                refine J.seq (fun K13 hK13 => ?_)
                refine J.region ?_
                refine J.y (op_move rfl rfl) rfl rfl rfl ?_
                refine J.y (op_geq rfl rfl rfl) rfl rfl rfl ?_
                refine J.y (op_move rfl rfl) rfl rfl rfl ?_
                refine J.split (d := 36) rfl (fun h36 => ?_) (fun h36 => ?_)
                ·
                  refine J.yg (Wan.is rfl rfl rfl rfl rfl) (op_move rfl rfl) rfl rfl ?_
                  refine J.yg (Wan.is rfl rfl rfl rfl rfl) (op_lss rfl rfl rfl) rfl rfl ?_
                  refine J.y (op_pickT rfl rfl rfl) rfl rfl rfl ?_
                  refine J.nil ?_
                  refine J.then_n (J.k hK13 ?_)
                  refine J.keepE [(0, _), (4, _), (5, _), (6, _), (39, _)] ⟨rfl, rfl, rfl, rfl, rfl, trivial⟩ ?_
                  refine J.ite rfl (fun h39 => ?_) (fun h39 => ?_)
                  ·
                    refine J.region ?_
                    refine J.y (op_move rfl rfl) rfl rfl rfl ?_
                    refine J.y ((op_sub rfl rfl rfl (by first | omega | (refine ⟨?_, ?_⟩ <;> omega))).as (v' := I (((s.getD 0 0).toNat - 240 : Nat) : Int)) (congrArg I (by omega))) rfl rfl rfl ?_
                    refine J.y (op_assign rfl rfl) rfl rfl rfl ?_
                    refine J.y (op_assign rfl rfl) rfl rfl rfl ?_
                    refine J.nil ?_
                    refine J.then_n ?_
                    exact J.kk (4, (s.getD 0 0).toNat - 240) hK10 (by unfold nxN bt; dsimp only; omega) ⟨rfl, rfl, rfl, trivial⟩ (fun _ h => h)
                  ·
                    refine J.skip ?_
                    refine J.then_n ?_
                    exact J.kk (0, 0) hK10 (by unfold nxN bt; dsimp only; omega) ⟨rfl, rfl, rfl, trivial⟩ (fun _ h => h)
                ·
                  refine J.no (Wan.is rfl rfl rfl rfl rfl) rfl rfl ?_
                  refine J.no (Wan.is rfl rfl rfl rfl rfl) rfl rfl ?_
                  refine J.y (op_pickF rfl rfl rfl) rfl rfl rfl ?_
                  refine J.nil ?_
                  refine J.then_n (J.k hK13 ?_)
                  refine J.keepE [(0, _), (4, _), (5, _), (6, _), (39, _)] ⟨rfl, rfl, rfl, rfl, rfl, trivial⟩ ?_
                  refine J.condF rfl rfl ?_
                  refine J.skip ?_
                  refine J.then_n ?_
                  exact J.kk (0, 0) hK10 (by unfold nxN bt; dsimp only; omega) ⟨rfl, rfl, rfl, trivial⟩ (fun _ h => h)
            ·
              refine J.no (Wan.is rfl rfl rfl rfl rfl) rfl rfl ?_
              refine J.no (Wan.is rfl rfl rfl rfl rfl) rfl rfl ?_
              refine J.y (op_pickF rfl rfl rfl) rfl rfl rfl ?_
              refine J.nil ?_
              refine J.then_n (J.k hK12 ?_)
              refine J.keepE [(0, _), (4, _), (5, _), (6, _), (31, _)] ⟨rfl, rfl, rfl, rfl, rfl, trivial⟩ ?_
              refine J.condF rfl rfl ?_
              refine J.seq (fun K14 hK14 => ?_)
              refine J.region ?_
              refine J.y (op_move rfl rfl) rfl rfl rfl ?_
              refine J.y (op_geq rfl rfl rfl) rfl rfl rfl ?_
              refine J.y (op_move rfl rfl) rfl rfl rfl ?_
              refine J.split (d := 36) rfl (fun h36 => ?_) (fun h36 => ?_)
              ·
                refine J.yg (Wan.is rfl rfl rfl rfl rfl) (op_move rfl rfl) rfl rfl ?_
                refine J.yg (Wan.is rfl rfl rfl rfl rfl) (op_lss rfl rfl rfl) rfl rfl ?_
                refine J.y (op_pickT rfl rfl rfl) rfl rfl rfl ?_
                refine J.nil ?_
                refine J.then_n (J.k hK14 ?_)
                refine J.keepE [(0, _), (4, _), (5, _), (6, _), (39, _)] ⟨rfl, rfl, rfl, rfl, rfl, trivial⟩ ?_
                refine J.ite rfl (fun h39 => ?_) (fun h39 => ?_)
                ·
                  refine J.region ?_
                  refine J.y (op_move rfl rfl) rfl rfl rfl ?_
                  refine J.y ((op_sub rfl rfl rfl (by first | omega | (refine ⟨?_, ?_⟩ <;> omega))).as (v' := I (((s.getD 0 0).toNat - 240 : Nat) : Int)) (congrArg I (by omega))) rfl rfl rfl ?_
                  refine J.y (op_assign rfl rfl) rfl rfl rfl ?_
                  refine J.y (op_assign rfl rfl) rfl rfl rfl ?_
                  refine J.nil ?_
                  refine J.then_n ?_
                  exact J.kk (4, (s.getD 0 0).toNat - 240) hK10 (by unfold nxN bt; dsimp only; omega) ⟨rfl, rfl, rfl, trivial⟩ (fun _ h => h)
                ·
                  refine J.skip ?_
                  refine J.then_n ?_
                  exact J.kk (0, 0) hK10 (by unfold nxN bt; dsimp only; omega) ⟨rfl, rfl, rfl, trivial⟩ (fun _ h => h)
              ·
                refine J.no (Wan.is rfl rfl rfl rfl rfl) rfl rfl ?_
                refine J.no (Wan.is rfl rfl rfl rfl rfl) rfl rfl ?_
                refine J.y (op_pickF rfl rfl rfl) rfl rfl rfl ?_
                refine J.nil ?_
                refine J.then_n (J.k hK14 ?_)
                refine J.keepE [(0, _), (4, _), (5, _), (6, _), (39, _)] ⟨rfl, rfl, rfl, rfl, rfl, trivial⟩ ?_
                refine J.condF rfl rfl ?_
                refine J.skip ?_
                refine J.then_n ?_
                exact J.kk (0, 0) hK10 (by unfold nxN bt; dsimp only; omega) ⟨rfl, rfl, rfl, trivial⟩ (fun _ h => h)
        ·
          refine J.no (Wan.is rfl rfl rfl rfl rfl) rfl rfl ?_
          refine J.no (Wan.is rfl rfl rfl rfl rfl) rfl rfl ?_
          refine J.y (op_pickF rfl rfl rfl) rfl rfl rfl ?_
          refine J.nil ?_
          refine J.then_n (J.k hK11 ?_)
          refine J.keepE [(0, _), (4, _), (5, _), (6, _), (23, _)] ⟨rfl, rfl, rfl, rfl, rfl, trivial⟩ ?_
          refine J.condF rfl rfl ?_
          refine J.seq (fun K15 hK15 => ?_)
          refine J.region ?_
          refine J.y (op_move rfl rfl) rfl rfl rfl ?_
          refine J.y (op_geq rfl rfl rfl) rfl rfl rfl ?_
          refine J.y (op_move rfl rfl) rfl rfl rfl ?_
          refine J.split (d := 28) rfl (fun h28 => ?_) (fun h28 => ?_)
          ·
            refine J.yg (Wan.is rfl rfl rfl rfl rfl) (op_move rfl rfl) rfl rfl ?_
            refine J.yg (Wan.is rfl rfl rfl rfl rfl) (op_lss rfl rfl rfl) rfl rfl ?_
            refine J.y (op_pickT rfl rfl rfl) rfl rfl rfl ?_
            refine J.nil ?_
            refine J.then_n (J.k hK15 ?_)
            refine J.keepE [(0, _), (4, _), (5, _), (6, _), (31, _)] ⟨rfl, rfl, rfl, rfl, rfl, trivial⟩ ?_
            refine J.ite rfl (fun h31 => ?_) (fun h31 => ?_)
            ·
              refine J.region ?_
              refine J.y (op_move rfl rfl) rfl rfl rfl ?_
              refine J.y ((op_sub rfl rfl rfl (by first | omega | (refine ⟨?_, ?_⟩ <;> omega))).as (v' := I (((s.getD 0 0).toNat - 224 : Nat) : Int)) (congrArg I (by omega))) rfl rfl rfl ?_
              refine J.y (op_assign rfl rfl) rfl rfl rfl ?_
              refine J.y (op_assign rfl rfl) rfl rfl rfl ?_
              refine J.nil ?_
              refine J.then_n ?_
              exact J.kk (3, (s.getD 0 0).toNat - 224) hK10 (by unfold nxN bt; dsimp only; omega) ⟨rfl, rfl, rfl, trivial⟩ (fun _ h => h)
            ·
              refine J.seq (fun K16 hK16 => ?_)
              refine J.region ?_
              refine J.y (op_move rfl rfl) rfl rfl rfl ?_
              refine J.y (op_geq rfl rfl rfl) rfl rfl rfl ?_
              refine J.y (op_move rfl rfl) rfl rfl rfl ?_
              refine J.split (d := 36) rfl (fun h36 => ?_) (fun h36 => ?_)
              ·
                refine J.yg (Wan.is rfl rfl rfl rfl rfl) (op_move rfl rfl) rfl rfl ?_
                refine J.yg (Wan.is rfl rfl rfl rfl rfl) (op_lss rfl rfl rfl) rfl rfl ?_
                refine J.y (op_pickT rfl rfl rfl) rfl rfl rfl ?_
                refine J.nil ?_
                refine J.then_n (J.k hK16 ?_)
                refine J.keepE [(0, _), (4, _), (5, _), (6, _), (39, _)] ⟨rfl, rfl, rfl, rfl, rfl, trivial⟩ ?_
                refine J.ite rfl (fun h39 => ?_) (fun h39 => ?_)
                ·
                  refine J.region ?_
                  refine J.y (op_move rfl rfl) rfl rfl rfl ?_
                  refine J.y ((op_sub rfl rfl rfl (by first | omega | (refine ⟨?_, ?_⟩ <;> omega))).as (v' := I (((s.getD 0 0).toNat - 240 : Nat) : Int)) (congrArg I (by omega))) rfl rfl rfl ?_
                  refine J.y (op_assign rfl rfl) rfl rfl rfl ?_
                  refine J.y (op_assign rfl rfl) rfl rfl rfl ?_
                  refine J.nil ?_
                  refine J.then_n ?_
                  exact J.kk (4, (s.getD 0 0).toNat - 240) hK10 (by unfold nxN bt; dsimp only; omega) ⟨rfl, rfl, rfl, trivial⟩ (fun _ h => h)
                ·
                  refine J.skip ?_
                  refine J.then_n ?_
                  exact J.kk (0, 0) hK10 (by unfold nxN bt; dsimp only; omega) ⟨rfl, rfl, rfl, trivial⟩ (fun _ h => h)
              ·
                refine J.no (Wan.is rfl rfl rfl rfl rfl) rfl rfl ?_
                refine J.no (Wan.is rfl rfl rfl rfl rfl) rfl rfl ?_
                refine J.y (op_pickF rfl rfl rfl) rfl rfl rfl ?_
                refine J.nil ?_
                refine J.then_n (J.k hK16 ?_)
                refine J.keepE [(0, _), (4, _), (5, _), (6, _), (39, _)] ⟨rfl, rfl, rfl, rfl, rfl, trivial⟩ ?_
                refine J.condF rfl rfl ?_
                refine J.skip ?_
                refine J.then_n ?_
                exact J.kk (0, 0) hK10 (by unfold nxN bt; dsimp only; omega) ⟨rfl, rfl, rfl, trivial⟩ (fun _ h => h)
          ·
            refine J.no (Wan.is rfl rfl rfl rfl rfl) rfl rfl ?_
            refine J.no (Wan.is rfl rfl rfl rfl rfl) rfl rfl ?_
            refine J.y (op_pickF rfl rfl rfl) rfl rfl rfl ?_
            refine J.nil ?_
            refine J.then_n (J.k hK15 ?_)
            refine J.keepE [(0, _), (4, _), (5, _), (6, _), (31, _)] ⟨rfl, rfl, rfl, rfl, rfl, trivial⟩ ?_
            refine J.condF rfl rfl ?_
            refine J.seq (fun K17 hK17 => ?_)
            refine J.region ?_
            refine J.y (op_move rfl rfl) rfl rfl rfl ?_
            refine J.y (op_geq rfl rfl rfl) rfl rfl rfl ?_
            refine J.y (op_move rfl rfl) rfl rfl rfl ?_
            refine J.split (d := 36) rfl (fun h36 => ?_) (fun h36 => ?_)
            ·
              refine J.yg (Wan.is rfl rfl rfl rfl rfl) (op_move rfl rfl) rfl rfl ?_
              refine J.yg (Wan.is rfl rfl rfl rfl rfl) (op_lss rfl rfl rfl) rfl rfl ?_
              refine J.y (op_pickT rfl rfl rfl) rfl rfl rfl ?_
              refine J.nil ?_
              refine J.then_n (J.k hK17 ?_)
              refine J.keepE [(0, _), (4, _), (5, _), (6, _), (39, _)] ⟨rfl, rfl, rfl, rfl, rfl, trivial⟩ ?_
              refine J.ite rfl (fun h39 => ?_) (fun h39 => ?_)
              ·
                refine J.region ?_
                refine J.y (op_move rfl rfl) rfl rfl rfl ?_
                refine J.y ((op_sub rfl rfl rfl (by first | omega | (refine ⟨?_, ?_⟩ <;> omega))).as (v' := I (((s.getD 0 0).toNat - 240 : Nat) : Int)) (congrArg I (by omega))) rfl rfl rfl ?_
                refine J.y (op_assign rfl rfl) rfl rfl rfl ?_
                refine J.y (op_assign rfl rfl) rfl rfl rfl ?_
                refine J.nil ?_
                refine J.then_n ?_
                exact J.kk (4, (s.getD 0 0).toNat - 240) hK10 (by unfold nxN bt; dsimp only; omega) ⟨rfl, rfl, rfl, trivial⟩ (fun _ h => h)
              ·
                refine J.skip ?_
                refine J.then_n ?_
                exact J.kk (0, 0) hK10 (by unfold nxN bt; dsimp only; omega) ⟨rfl, rfl, rfl, trivial⟩ (fun _ h => h)
            ·
              refine J.no (Wan.is rfl rfl rfl rfl rfl) rfl rfl ?_
              refine J.no (Wan.is rfl rfl rfl rfl rfl) rfl rfl ?_
              refine J.y (op_pickF rfl rfl rfl) rfl rfl rfl ?_
              refine J.nil ?_
              refine J.then_n (J.k hK17 ?_)
              refine J.keepE [(0, _), (4, _), (5, _), (6, _), (39, _)] ⟨rfl, rfl, rfl, rfl, rfl, trivial⟩ ?_
              refine J.condF rfl rfl ?_
              refine J.skip ?_
              refine J.then_n ?_
              exact J.kk (0, 0) hK10 (by unfold nxN bt; dsimp only; omega) ⟨rfl, rfl, rfl, trivial⟩ (fun _ h => h)
      rintro ⟨n, r⟩ hn
      dsimp only at hn ⊢
      refine J.seq (fun K18 hK18 => ?_)
      refine J.seq (fun K19 hK19 => ?_)
      refine J.region ?_
      refine J.y (op_move rfl rfl) rfl rfl rfl ?_
      refine J.y (op_eql rfl rfl rfl) rfl rfl rfl ?_
      refine J.y (op_move rfl rfl) rfl rfl rfl ?_
      refine J.split (d := 44) rfl (fun h44 => ?_) (fun h44 => ?_)
      ·
        refine J.no (Wan.is rfl rfl rfl rfl rfl) rfl rfl ?_
        refine J.no (Wan.is rfl rfl rfl rfl rfl) rfl rfl ?_
        refine J.no (Wan.is rfl rfl rfl rfl rfl) rfl rfl ?_
        refine J.no (Wan.is rfl rfl rfl rfl rfl) rfl rfl ?_
        refine J.y (op_pickT rfl rfl rfl) rfl rfl rfl ?_
        refine J.nil ?_
        refine J.then_n (J.k hK19 ?_)
        refine J.keepE [(0, _), (5, _), (6, _), (49, _)] ⟨rfl, rfl, rfl, rfl, trivial⟩ ?_
        refine J.condT rfl rfl ?_
        refine J.seq (fun K20 hK20 => ?_)
        refine J.region ?_
        refine J.y (op_assign rfl rfl) rfl rfl rfl ?_
        refine J.y (op_assign rfl rfl) rfl rfl rfl ?_
        refine J.nil ?_
        refine J.then_n (J.k hK20 ?_)
        refine J.keepE [(2, _), (3, _)] ⟨rfl, rfl, trivial⟩ ?_
        refine J.ret ?_
        refine J.then_r ?_
        exact J.done hw0 (fun _ _ h => h) (res2 rfl rfl rfl) (retOk () (by rw [nx_short hl0 ha hn (by omega)] <;> rfl) trivial [0] rfl (by decide))
      ·
        refine J.yg (Wan.is rfl rfl rfl rfl rfl) (op_move rfl rfl) rfl rfl ?_
        refine J.yg (Wan.is rfl rfl rfl rfl rfl) (op_slen Tryd.underlying9 rfl rfl) rfl rfl ?_
        refine J.yg (Wan.is rfl rfl rfl rfl rfl) (op_move rfl rfl) rfl rfl ?_
        refine J.yg (Wan.is rfl rfl rfl rfl rfl) (op_lss rfl rfl rfl) rfl rfl ?_
        refine J.y (op_pickF rfl rfl rfl) rfl rfl rfl ?_
        refine J.nil ?_
        refine J.then_n (J.k hK19 ?_)
        refine J.keepE [(0, _), (5, _), (6, _), (49, _)] ⟨rfl, rfl, rfl, rfl, trivial⟩ ?_
        refine J.ite rfl (fun h49 => ?_) (fun h49 => ?_)
        ·
          refine J.seq (fun K21 hK21 => ?_)
          refine J.region ?_
          refine J.y (op_assign rfl rfl) rfl rfl rfl ?_
          refine J.y (op_assign rfl rfl) rfl rfl rfl ?_
          refine J.nil ?_
          refine J.then_n (J.k hK21 ?_)
          refine J.keepE [(2, _), (3, _)] ⟨rfl, rfl, trivial⟩ ?_
          refine J.ret ?_
          refine J.then_r ?_
          exact J.done hw0 (fun _ _ h => h) (res2 rfl rfl rfl) (retOk () (by rw [nx_short hl0 ha hn (by omega)] <;> rfl) trivial [0] rfl (by decide))
        ·
          refine J.skip ?_
          refine J.then_n (J.k hK18 ?_)
          refine J.keepE [(0, _), (5, _), (6, _)] ⟨rfl, rfl, rfl, trivial⟩ ?_
          refine J.seq (fun K22 hK22 => ?_)
          refine J.seq (fun K23 hK23 => ?_)
          refine J.region ?_
          refine J.y (op_assign rfl rfl) rfl rfl rfl ?_
          refine J.nil ?_
          refine J.then_n (J.k hK23 ?_)
          refine J.keepE [(0, _), (5, _), (6, _), (7, _)] ⟨rfl, rfl, rfl, rfl, trivial⟩ ?_
          refine J.block ?_
          refine J.loop (X := Nat × Nat) (fun ζ => [(0, Str (s)), (5, I ((n : Nat) : Int)), (6, I ((ζ.2 : Nat) : Int)), (7, I ((ζ.1 : Nat) : Int))]) (fun ζ => [F]) (fun ζ => nxI s n r ζ.1 ζ.2) (fun ζ => n - ζ.1) (1, r) (by have h := hn; unfold nxN at h; unfold nxI; dsimp only; omega) ⟨rfl, rfl, rfl, rfl, trivial⟩ (fun _ h => h) ?_
          rintro ⟨i, q⟩ hi I0 hI0
          dsimp only at hi ⊢
          refine J.seq (fun K24 hK24 => ?_)
          refine J.seq (fun K25 hK25 => ?_)
          have hi2 := hi
          obtain ⟨_, hln, hn2, hin, hi2⟩ := hi2
          refine J.region ?_
          refine J.y (op_move rfl rfl) rfl rfl rfl ?_
          refine J.y (op_move rfl rfl) rfl rfl rfl ?_
          refine J.y (op_lss rfl rfl rfl) rfl rfl rfl ?_
          refine J.nil ?_
          refine J.then_n (J.k hK25 ?_)
          refine J.keepE [(0, _), (5, _), (6, _), (7, _), (52, _)] ⟨rfl, rfl, rfl, rfl, rfl, trivial⟩ ?_
          refine J.ite rfl (fun h52 => ?_) (fun h52 => ?_)
          ·
            refine J.skip ?_
            refine J.then_n (J.k hK24 ?_)
            refine J.keepE [(0, _), (5, _), (6, _), (7, _)] ⟨rfl, rfl, rfl, rfl, trivial⟩ ?_
            refine J.seq (fun K26 hK26 => ?_)
            refine J.block ?_
            refine J.seq (fun K27 hK27 => ?_)
            refine J.region ?_
            refine J.y (op_move rfl rfl) rfl rfl rfl ?_
            refine J.y (op_move rfl rfl) rfl rfl rfl ?_
            refine J.y (op_sindex (c := s.getD i 0) Tryd.underlying9 rfl rfl rfl (getSome 0 (by first | omega | (simp only [List.length_append, List.length_cons, List.length_nil, List.length_take, List.length_drop] at *; omega)))) rfl rfl rfl ?_
            refine J.y (op_cv_u8_i64 rfl rfl Tryd.underlying5 Tryd.underlying3) rfl rfl rfl ?_
            refine J.y (op_assign rfl rfl) rfl rfl rfl ?_
            refine J.nil ?_
            refine J.then_n (J.k hK27 ?_)
            refine J.keepE [(0, _), (5, _), (6, _), (7, _), (8, _)] ⟨rfl, rfl, rfl, rfl, rfl, trivial⟩ ?_
            refine J.seq (fun K28 hK28 => ?_)
            refine J.seq (fun K29 hK29 => ?_)
            refine J.region ?_
            refine J.y (op_move rfl rfl) rfl rfl rfl ?_
            refine J.y (op_lss rfl rfl rfl) rfl rfl rfl ?_
            refine J.y (op_move rfl rfl) rfl rfl rfl ?_
            refine J.split (d := 61) rfl (fun h61 => ?_) (fun h61 => ?_)
            ·
              refine J.no (Wan.is rfl rfl rfl rfl rfl) rfl rfl ?_
              refine J.no (Wan.is rfl rfl rfl rfl rfl) rfl rfl ?_
              refine J.y (op_pickT rfl rfl rfl) rfl rfl rfl ?_
              refine J.nil ?_
              refine J.then_n (J.k hK29 ?_)
              refine J.keepE [(0, _), (5, _), (6, _), (7, _), (8, _), (64, _)] ⟨rfl, rfl, rfl, rfl, rfl, rfl, trivial⟩ ?_
              refine J.condT rfl rfl ?_
              refine J.seq (fun K30 hK30 => ?_)
              refine J.region ?_
              refine J.y (op_assign rfl rfl) rfl rfl rfl ?_
              refine J.y (op_assign rfl rfl) rfl rfl rfl ?_
              refine J.nil ?_
              refine J.then_n (J.k hK30 ?_)
              refine J.keepE [(2, _), (3, _)] ⟨rfl, rfl, trivial⟩ ?_
              refine J.ret ?_
              refine J.then_r ?_
              refine J.blk_r ?_
              refine J.then_r ?_
              refine J.then_r ?_
              refine J.blk_r ?_
              refine J.then_r ?_
              exact J.done hw0 (fun _ _ h => h) (res2 rfl rfl rfl) (retOk () (by rw [nx_mid ha hn hi (by omega) (c := (s.getD i 0).toNat) rfl (by omega)] <;> rfl) trivial [0] rfl (by decide))
            ·
              refine J.yg (Wan.is rfl rfl rfl rfl rfl) (op_move rfl rfl) rfl rfl ?_
              refine J.yg (Wan.is rfl rfl rfl rfl rfl) (op_geq rfl rfl rfl) rfl rfl ?_
              refine J.y (op_pickF rfl rfl rfl) rfl rfl rfl ?_
              refine J.nil ?_
              refine J.then_n (J.k hK29 ?_)
              refine J.keepE [(0, _), (5, _), (6, _), (7, _), (8, _), (64, _)] ⟨rfl, rfl, rfl, rfl, rfl, rfl, trivial⟩ ?_
              refine J.ite rfl (fun h64 => ?_) (fun h64 => ?_)
              ·
                refine J.seq (fun K31 hK31 => ?_)
                refine J.region ?_
                refine J.y (op_assign rfl rfl) rfl rfl rfl ?_
                refine J.y (op_assign rfl rfl) rfl rfl rfl ?_
                refine J.nil ?_
                refine J.then_n (J.k hK31 ?_)
                refine J.keepE [(2, _), (3, _)] ⟨rfl, rfl, trivial⟩ ?_
                refine J.ret ?_
                refine J.then_r ?_
                refine J.blk_r ?_
                refine J.then_r ?_
                refine J.then_r ?_
                refine J.blk_r ?_
                refine J.then_r ?_
                exact J.done hw0 (fun _ _ h => h) (res2 rfl rfl rfl) (retOk () (by rw [nx_mid ha hn hi (by omega) (c := (s.getD i 0).toNat) rfl (by omega)] <;> rfl) trivial [0] rfl (by decide))
              ·
                refine J.skip ?_
                refine J.then_n (J.k hK28 ?_)
                refine J.keepE [(0, _), (5, _), (6, _), (7, _), (8, _)] ⟨rfl, rfl, rfl, rfl, rfl, trivial⟩ ?_
                refine J.region ?_
                refine J.y (op_move rfl rfl) rfl rfl rfl ?_
                have hqb : q < 8388608 := by have := bt_lt s 1; have := bt_lt s 2; have := bt_lt s 3; omega
                refine J.y ((op_mul rfl rfl rfl (by first | omega | (simp only [List.length_append, List.length_cons, List.length_nil, List.length_take, List.length_drop] at *; omega))).as (v' := I ((64 * q : Nat) : Int)) (congrArg I (by omega))) rfl rfl rfl ?_
                refine J.y (op_move rfl rfl) rfl rfl rfl ?_
                refine J.y ((op_add rfl rfl rfl (by first | omega | (simp only [List.length_append, List.length_cons, List.length_nil, List.length_take, List.length_drop] at *; omega))).as (v' := I ((64 * q + ((s.getD i 0).toNat) : Nat) : Int)) (congrArg I (by omega))) rfl rfl rfl ?_
                have hqb : q < 8388608 := by have := bt_lt s 1; have := bt_lt s 2; have := bt_lt s 3; omega
                refine J.y ((op_sub rfl rfl rfl (by first | omega | (refine ⟨?_, ?_⟩ <;> omega))).as (v' := I ((64 * q + (s.getD i 0).toNat - 128 : Nat) : Int)) (congrArg I (by omega))) rfl rfl rfl ?_
                refine J.y (op_assign rfl rfl) rfl rfl rfl ?_
                refine J.nil ?_
                refine J.blk_n ?_
                refine J.then_n (J.k hK26 ?_)
                refine J.keepE [(0, _), (5, _), (6, _), (7, _)] ⟨rfl, rfl, rfl, rfl, trivial⟩ ?_
                refine J.region ?_
                refine J.y (op_move rfl rfl) rfl rfl rfl ?_
                refine J.y ((op_add rfl rfl rfl (by first | omega | (simp only [List.length_append, List.length_cons, List.length_nil, List.length_take, List.length_drop] at *; omega))).as (v' := I ((i + 1 : Nat) : Int)) (congrArg I (by omega))) rfl rfl rfl ?_
                refine J.y (op_assign rfl rfl) rfl rfl rfl ?_
                refine J.nil ?_
                refine J.then_n ?_
                exact J.kk (i + 1, 64 * q + (s.getD i 0).toNat - 128) (fun η (hη : _ ∧ n - η.1 < n - i) => hI0 η hη.1 hη.2) ⟨by have hn3 := hn; unfold nxN at hn3; unfold nxI; dsimp only; rcases hi2 with h | h | h | h <;> (obtain ⟨rfl, h⟩ := h; (try have hbb : (s.getD 1 0).toNat = bt s 1 := rfl); (try have hbc : (s.getD 2 0).toNat = bt s 2 := rfl); (try have hbd : (s.getD 3 0).toNat = bt s 3 := rfl); omega), by first | omega | (dsimp only; omega)⟩ ⟨rfl, rfl, rfl, rfl, trivial⟩ (fun _ h => h)
          ·
            refine J.exit ?_
            refine J.then_x ?_
            refine J.then_x ?_
            refine J.blk_eq ?_
            refine J.then_n (J.k hK22 ?_)
            refine J.keepE [(5, _), (6, _)] ⟨rfl, rfl, trivial⟩ ?_
            refine J.seq (fun K32 hK32 => ?_)
            refine J.seq (fun K33 hK33 => ?_)
            have hN := nx_end hl0 hn hi (by omega)
            refine J.region ?_
            refine J.y (op_move rfl rfl) rfl rfl rfl ?_
            refine J.y (op_eql rfl rfl rfl) rfl rfl rfl ?_
            refine J.y (op_move rfl rfl) rfl rfl rfl ?_
            refine J.split (d := 72) rfl (fun h72 => ?_) (fun h72 => ?_)
            ·
              refine J.yg (Wan.is rfl rfl rfl rfl rfl) (op_move rfl rfl) rfl rfl ?_
              refine J.yg (Wan.is rfl rfl rfl rfl rfl) (op_lss rfl rfl rfl) rfl rfl ?_
              refine J.y (op_pickT rfl rfl rfl) rfl rfl rfl ?_
              refine J.y (op_move rfl rfl) rfl rfl rfl ?_
              refine J.split (d := 76) rfl (fun h76 => ?_) (fun h76 => ?_)
              ·
                refine J.no (Wan.is rfl rfl rfl rfl rfl) rfl rfl ?_
                refine J.no (Wan.is rfl rfl rfl rfl rfl) rfl rfl ?_
                refine J.no (Wan.is rfl rfl rfl rfl rfl) rfl rfl ?_
                refine J.no (Wan.un rfl rfl rfl rfl) rfl rfl ?_
                refine J.no (Wan.un rfl rfl rfl rfl) rfl rfl ?_
                refine J.no (Wan.un rfl rfl rfl rfl) rfl rfl ?_
                refine J.no (Wan.un rfl rfl rfl rfl) rfl rfl ?_
                refine J.no (Wan.un rfl rfl rfl rfl) rfl rfl ?_
                refine J.no (Wan.un rfl rfl rfl rfl) rfl rfl ?_
                refine J.no (Wan.un rfl rfl rfl rfl) rfl rfl ?_
                refine J.no (Wan.un rfl rfl rfl rfl) rfl rfl ?_
                refine J.no (Wan.un rfl rfl rfl rfl) rfl rfl ?_
                refine J.no (Wan.un rfl rfl rfl rfl) rfl rfl ?_
                refine J.no (Wan.is rfl rfl rfl rfl rfl) rfl rfl ?_
                refine J.y (op_pickT rfl rfl rfl) rfl rfl rfl ?_
                refine J.y (op_move rfl rfl) rfl rfl rfl ?_
                refine J.no (Wan.is rfl rfl rfl rfl rfl) rfl rfl ?_
                refine J.no (Wan.is rfl rfl rfl rfl rfl) rfl rfl ?_
                refine J.no (Wan.is rfl rfl rfl rfl rfl) rfl rfl ?_
                refine J.no (Wan.un rfl rfl rfl rfl) rfl rfl ?_
                refine J.no (Wan.un rfl rfl rfl rfl) rfl rfl ?_
                refine J.no (Wan.un rfl rfl rfl rfl) rfl rfl ?_
                refine J.no (Wan.un rfl rfl rfl rfl) rfl rfl ?_
                refine J.no (Wan.un rfl rfl rfl rfl) rfl rfl ?_
                refine J.no (Wan.un rfl rfl rfl rfl) rfl rfl ?_
                refine J.no (Wan.is rfl rfl rfl rfl rfl) rfl rfl ?_
                refine J.y (op_pickT rfl rfl rfl) rfl rfl rfl ?_
                refine J.nil ?_
                refine J.then_n (J.k hK33 ?_)
                refine J.keepE [(5, _), (6, _), (103, _)] ⟨rfl, rfl, rfl, trivial⟩ ?_
                refine J.condT rfl rfl ?_
                refine J.seq (fun K34 hK34 => ?_)
                refine J.region ?_
                refine J.y (op_assign rfl rfl) rfl rfl rfl ?_
                refine J.y (op_assign rfl rfl) rfl rfl rfl ?_
                refine J.nil ?_
                refine J.then_n (J.k hK34 ?_)
                refine J.keepE [(2, _), (3, _)] ⟨rfl, rfl, trivial⟩ ?_
                refine J.ret ?_
                refine J.then_r ?_
                exact J.done hw0 (fun _ _ h => h) (res2 rfl rfl rfl) (retOk () (by first | (rw [hN, if_pos (by omega)] <;> rfl) | (rw [hN, if_neg (by omega)] <;> rfl)) trivial [0] rfl (by decide))
              ·
                refine J.yg (Wan.is rfl rfl rfl rfl rfl) (op_move rfl rfl) rfl rfl ?_
                refine J.yg (Wan.is rfl rfl rfl rfl rfl) (op_eql rfl rfl rfl) rfl rfl ?_
                refine J.yg (Wan.is rfl rfl rfl rfl rfl) (op_move rfl rfl) rfl rfl ?_
                refine J.split (d := 79) rfl (fun h79 => ?_) (fun h79 => ?_)
                ·
                  refine J.yg (Wan.is rfl rfl rfl rfl rfl) (op_move rfl rfl) rfl rfl ?_
                  refine J.yg (Wan.is rfl rfl rfl rfl rfl) (op_lss rfl rfl rfl) rfl rfl ?_
                  refine J.yg (Wan.is rfl rfl rfl rfl rfl) (op_move rfl rfl) rfl rfl ?_
                  refine J.split (d := 82) rfl (fun h82 => ?_) (fun h82 => ?_)
                  ·
                    refine J.no (Wan.is rfl rfl rfl rfl rfl) rfl rfl ?_
                    refine J.no (Wan.is rfl rfl rfl rfl rfl) rfl rfl ?_
                    refine J.no (Wan.is rfl rfl rfl rfl rfl) rfl rfl ?_
                    refine J.no (Wan.un rfl rfl rfl rfl) rfl rfl ?_
                    refine J.no (Wan.un rfl rfl rfl rfl) rfl rfl ?_
                    refine J.no (Wan.is rfl rfl rfl rfl rfl) rfl rfl ?_
                    refine J.yg (Wan.is rfl rfl rfl rfl rfl) (op_pickT rfl rfl rfl) rfl rfl ?_
                    refine J.yg (Wan.is rfl rfl rfl rfl rfl) (op_pickT rfl rfl rfl) rfl rfl ?_
                    refine J.y (op_pickF rfl rfl rfl) rfl rfl rfl ?_
                    refine J.y (op_move rfl rfl) rfl rfl rfl ?_
                    refine J.no (Wan.is rfl rfl rfl rfl rfl) rfl rfl ?_
                    refine J.no (Wan.is rfl rfl rfl rfl rfl) rfl rfl ?_
                    refine J.no (Wan.is rfl rfl rfl rfl rfl) rfl rfl ?_
                    refine J.no (Wan.un rfl rfl rfl rfl) rfl rfl ?_
                    refine J.no (Wan.un rfl rfl rfl rfl) rfl rfl ?_
                    refine J.no (Wan.un rfl rfl rfl rfl) rfl rfl ?_
                    refine J.no (Wan.un rfl rfl rfl rfl) rfl rfl ?_
                    refine J.no (Wan.un rfl rfl rfl rfl) rfl rfl ?_
                    refine J.no (Wan.un rfl rfl rfl rfl) rfl rfl ?_
                    refine J.no (Wan.is rfl rfl rfl rfl rfl) rfl rfl ?_
                    refine J.y (op_pickT rfl rfl rfl) rfl rfl rfl ?_
                    refine J.nil ?_
                    refine J.then_n (J.k hK33 ?_)
                    refine J.keepE [(5, _), (6, _), (103, _)] ⟨rfl, rfl, rfl, trivial⟩ ?_
                    refine J.condT rfl rfl ?_
                    refine J.seq (fun K35 hK35 => ?_)
                    refine J.region ?_
                    refine J.y (op_assign rfl rfl) rfl rfl rfl ?_
                    refine J.y (op_assign rfl rfl) rfl rfl rfl ?_
                    refine J.nil ?_
                    refine J.then_n (J.k hK35 ?_)
                    refine J.keepE [(2, _), (3, _)] ⟨rfl, rfl, trivial⟩ ?_
                    refine J.ret ?_
                    refine J.then_r ?_
                    exact J.done hw0 (fun _ _ h => h) (res2 rfl rfl rfl) (retOk () (by first | (rw [hN, if_pos (by omega)] <;> rfl) | (rw [hN, if_neg (by omega)] <;> rfl)) trivial [0] rfl (by decide))
                  ·
                    refine J.yg (Wan.is rfl rfl rfl rfl rfl) (op_move rfl rfl) rfl rfl ?_
                    refine J.yg (Wan.is rfl rfl rfl rfl rfl) (op_geq rfl rfl rfl) rfl rfl ?_
                    refine J.yg (Wan.is rfl rfl rfl rfl rfl) (op_move rfl rfl) rfl rfl ?_
                    refine J.split (d := 85) rfl (fun h85 => ?_) (fun h85 => ?_)
                    ·
                      refine J.yg (Wan.is rfl rfl rfl rfl rfl) (op_move rfl rfl) rfl rfl ?_
                      refine J.yg (Wan.is rfl rfl rfl rfl rfl) (op_lss rfl rfl rfl) rfl rfl ?_
                      refine J.yg (Wan.is rfl rfl rfl rfl rfl) (op_pickT rfl rfl rfl) rfl rfl ?_
                      refine J.yg (Wan.is rfl rfl rfl rfl rfl) (op_pickF rfl rfl rfl) rfl rfl ?_
                      refine J.yg (Wan.is rfl rfl rfl rfl rfl) (op_pickT rfl rfl rfl) rfl rfl ?_
                      refine J.y (op_pickF rfl rfl rfl) rfl rfl rfl ?_
                      refine J.y (op_move rfl rfl) rfl rfl rfl ?_
                      refine J.split (d := 92) rfl (fun h92 => ?_) (fun h92 => ?_)
                      ·
                        refine J.no (Wan.is rfl rfl rfl rfl rfl) rfl rfl ?_
                        refine J.no (Wan.is rfl rfl rfl rfl rfl) rfl rfl ?_
                        refine J.no (Wan.is rfl rfl rfl rfl rfl) rfl rfl ?_
                        refine J.no (Wan.un rfl rfl rfl rfl) rfl rfl ?_
                        refine J.no (Wan.un rfl rfl rfl rfl) rfl rfl ?_
                        refine J.no (Wan.un rfl rfl rfl rfl) rfl rfl ?_
                        refine J.no (Wan.un rfl rfl rfl rfl) rfl rfl ?_
                        refine J.no (Wan.un rfl rfl rfl rfl) rfl rfl ?_
                        refine J.no (Wan.un rfl rfl rfl rfl) rfl rfl ?_
                        refine J.no (Wan.is rfl rfl rfl rfl rfl) rfl rfl ?_
                        refine J.y (op_pickT rfl rfl rfl) rfl rfl rfl ?_
                        refine J.nil ?_
                        refine J.then_n (J.k hK33 ?_)
                        refine J.keepE [(5, _), (6, _), (103, _)] ⟨rfl, rfl, rfl, trivial⟩ ?_
                        refine J.condT rfl rfl ?_
                        refine J.seq (fun K36 hK36 => ?_)
                        refine J.region ?_
                        refine J.y (op_assign rfl rfl) rfl rfl rfl ?_
                        refine J.y (op_assign rfl rfl) rfl rfl rfl ?_
                        refine J.nil ?_
                        refine J.then_n (J.k hK36 ?_)
                        refine J.keepE [(2, _), (3, _)] ⟨rfl, rfl, trivial⟩ ?_
                        refine J.ret ?_
                        refine J.then_r ?_
                        exact J.done hw0 (fun _ _ h => h) (res2 rfl rfl rfl) (retOk () (by first | (rw [hN, if_pos (by omega)] <;> rfl) | (rw [hN, if_neg (by omega)] <;> rfl)) trivial [0] rfl (by decide))
                      ·
                        refine J.yg (Wan.is rfl rfl rfl rfl rfl) (op_move rfl rfl) rfl rfl ?_
                        refine J.yg (Wan.is rfl rfl rfl rfl rfl) (op_eql rfl rfl rfl) rfl rfl ?_
                        refine J.yg (Wan.is rfl rfl rfl rfl rfl) (op_move rfl rfl) rfl rfl ?_
                        refine J.split (d := 95) rfl (fun h95 => ?_) (fun h95 => ?_)
                        ·
                          refine J.yg (Wan.is rfl rfl rfl rfl rfl) (op_move rfl rfl) rfl rfl ?_
                          refine J.yg (Wan.is rfl rfl rfl rfl rfl) (op_lss rfl rfl rfl) rfl rfl ?_
                          refine J.yg (Wan.is rfl rfl rfl rfl rfl) (op_move rfl rfl) rfl rfl ?_
                          refine J.split (d := 98) rfl (fun h98 => ?_) (fun h98 => ?_)
                          ·
                            refine J.no (Wan.is rfl rfl rfl rfl rfl) rfl rfl ?_
                            refine J.no (Wan.is rfl rfl rfl rfl rfl) rfl rfl ?_
                            refine J.yg (Wan.is rfl rfl rfl rfl rfl) (op_pickT rfl rfl rfl) rfl rfl ?_
                            refine J.yg (Wan.is rfl rfl rfl rfl rfl) (op_pickT rfl rfl rfl) rfl rfl ?_
                            refine J.y (op_pickF rfl rfl rfl) rfl rfl rfl ?_
                            refine J.nil ?_
                            refine J.then_n (J.k hK33 ?_)
                            refine J.keepE [(5, _), (6, _), (103, _)] ⟨rfl, rfl, rfl, trivial⟩ ?_
                            refine J.condT rfl rfl ?_
                            refine J.seq (fun K37 hK37 => ?_)
                            refine J.region ?_
                            refine J.y (op_assign rfl rfl) rfl rfl rfl ?_
                            refine J.y (op_assign rfl rfl) rfl rfl rfl ?_
                            refine J.nil ?_
                            refine J.then_n (J.k hK37 ?_)
                            refine J.keepE [(2, _), (3, _)] ⟨rfl, rfl, trivial⟩ ?_
                            refine J.ret ?_
                            refine J.then_r ?_
                            exact J.done hw0 (fun _ _ h => h) (res2 rfl rfl rfl) (retOk () (by first | (rw [hN, if_pos (by omega)] <;> rfl) | (rw [hN, if_neg (by omega)] <;> rfl)) trivial [0] rfl (by decide))
                          ·
                            refine J.yg (Wan.is rfl rfl rfl rfl rfl) (op_move rfl rfl) rfl rfl ?_
                            refine J.yg (Wan.is rfl rfl rfl rfl rfl) (op_gtr rfl rfl rfl) rfl rfl ?_
                            refine J.yg (Wan.is rfl rfl rfl rfl rfl) (op_pickF rfl rfl rfl) rfl rfl ?_
                            refine J.yg (Wan.is rfl rfl rfl rfl rfl) (op_pickT rfl rfl rfl) rfl rfl ?_
                            refine J.y (op_pickF rfl rfl rfl) rfl rfl rfl ?_
                            refine J.nil ?_
                            refine J.then_n (J.k hK33 ?_)
                            refine J.keepE [(5, _), (6, _), (103, _)] ⟨rfl, rfl, rfl, trivial⟩ ?_
                            refine J.ite rfl (fun h103 => ?_) (fun h103 => ?_)
                            ·
                              refine J.seq (fun K38 hK38 => ?_)
                              refine J.region ?_
                              refine J.y (op_assign rfl rfl) rfl rfl rfl ?_
                              refine J.y (op_assign rfl rfl) rfl rfl rfl ?_
                              refine J.nil ?_
                              refine J.then_n (J.k hK38 ?_)
                              refine J.keepE [(2, _), (3, _)] ⟨rfl, rfl, trivial⟩ ?_
                              refine J.ret ?_
                              refine J.then_r ?_
                              exact J.done hw0 (fun _ _ h => h) (res2 rfl rfl rfl) (retOk () (by first | (rw [hN, if_pos (by omega)] <;> rfl) | (rw [hN, if_neg (by omega)] <;> rfl)) trivial [0] rfl (by decide))
                            ·
                              refine J.skip ?_
                              refine J.then_n (J.k hK32 ?_)
                              refine J.keepE [(5, _), (6, _)] ⟨rfl, rfl, trivial⟩ ?_
                              refine J.seq (fun K39 hK39 => ?_)
                              refine J.region ?_
                              refine J.y (op_move rfl rfl) rfl rfl rfl ?_
                              refine J.y (op_move rfl rfl) rfl rfl rfl ?_
                              refine J.y (op_assign rfl rfl) rfl rfl rfl ?_
                              refine J.y (op_assign rfl rfl) rfl rfl rfl ?_
                              refine J.nil ?_
                              refine J.then_n (J.k hK39 ?_)
                              refine J.keepE [(2, _), (3, _)] ⟨rfl, rfl, trivial⟩ ?_
                              refine J.ret ?_
                              exact J.done hw0 (fun _ _ h => h) (res2 rfl rfl rfl) (retOk () (by first | (rw [hN, if_pos (by omega)] <;> rfl) | (rw [hN, if_neg (by omega)] <;> rfl)) trivial [0] rfl (by decide))
                        ·
                          refine J.no (Wan.is rfl rfl rfl rfl rfl) rfl rfl ?_
                          refine J.no (Wan.is rfl rfl rfl rfl rfl) rfl rfl ?_
                          refine J.no (Wan.is rfl rfl rfl rfl rfl) rfl rfl ?_
                          refine J.no (Wan.un rfl rfl rfl rfl) rfl rfl ?_
                          refine J.no (Wan.un rfl rfl rfl rfl) rfl rfl ?_
                          refine J.no (Wan.is rfl rfl rfl rfl rfl) rfl rfl ?_
                          refine J.yg (Wan.is rfl rfl rfl rfl rfl) (op_pickF rfl rfl rfl) rfl rfl ?_
                          refine J.y (op_pickF rfl rfl rfl) rfl rfl rfl ?_
                          refine J.nil ?_
                          refine J.then_n (J.k hK33 ?_)
                          refine J.keepE [(5, _), (6, _), (103, _)] ⟨rfl, rfl, rfl, trivial⟩ ?_
                          refine J.condF rfl rfl ?_
                          refine J.skip ?_
                          refine J.then_n (J.k hK32 ?_)
                          refine J.keepE [(5, _), (6, _)] ⟨rfl, rfl, trivial⟩ ?_
                          refine J.seq (fun K40 hK40 => ?_)
                          refine J.region ?_
                          refine J.y (op_move rfl rfl) rfl rfl rfl ?_
                          refine J.y (op_move rfl rfl) rfl rfl rfl ?_
                          refine J.y (op_assign rfl rfl) rfl rfl rfl ?_
                          refine J.y (op_assign rfl rfl) rfl rfl rfl ?_
                          refine J.nil ?_
                          refine J.then_n (J.k hK40 ?_)
                          refine J.keepE [(2, _), (3, _)] ⟨rfl, rfl, trivial⟩ ?_
                          refine J.ret ?_
                          exact J.done hw0 (fun _ _ h => h) (res2 rfl rfl rfl) (retOk () (by first | (rw [hN, if_pos (by omega)] <;> rfl) | (rw [hN, if_neg (by omega)] <;> rfl)) trivial [0] rfl (by decide))
                    ·
                      refine J.no (Wan.is rfl rfl rfl rfl rfl) rfl rfl ?_
                      refine J.no (Wan.is rfl rfl rfl rfl rfl) rfl rfl ?_
                      refine J.yg (Wan.is rfl rfl rfl rfl rfl) (op_pickF rfl rfl rfl) rfl rfl ?_
                      refine J.yg (Wan.is rfl rfl rfl rfl rfl) (op_pickF rfl rfl rfl) rfl rfl ?_
                      refine J.yg (Wan.is rfl rfl rfl rfl rfl) (op_pickT rfl rfl rfl) rfl rfl ?_
                      refine J.y (op_pickF rfl rfl rfl) rfl rfl rfl ?_
                      refine J.y (op_move rfl rfl) rfl rfl rfl ?_
                      refine J.yg (Wan.is rfl rfl rfl rfl rfl) (op_move rfl rfl) rfl rfl ?_
                      refine J.yg (Wan.is rfl rfl rfl rfl rfl) (op_eql rfl rfl rfl) rfl rfl ?_
                      refine J.yg (Wan.is rfl rfl rfl rfl rfl) (op_move rfl rfl) rfl rfl ?_
                      refine J.split (d := 95) rfl (fun h95 => ?_) (fun h95 => ?_)
                      ·
                        refine J.yg (Wan.is rfl rfl rfl rfl rfl) (op_move rfl rfl) rfl rfl ?_
                        refine J.yg (Wan.is rfl rfl rfl rfl rfl) (op_lss rfl rfl rfl) rfl rfl ?_
                        refine J.yg (Wan.is rfl rfl rfl rfl rfl) (op_move rfl rfl) rfl rfl ?_
                        refine J.split (d := 98) rfl (fun h98 => ?_) (fun h98 => ?_)
                        ·
                          refine J.no (Wan.is rfl rfl rfl rfl rfl) rfl rfl ?_
                          refine J.no (Wan.is rfl rfl rfl rfl rfl) rfl rfl ?_
                          refine J.yg (Wan.is rfl rfl rfl rfl rfl) (op_pickT rfl rfl rfl) rfl rfl ?_
                          refine J.yg (Wan.is rfl rfl rfl rfl rfl) (op_pickT rfl rfl rfl) rfl rfl ?_
                          refine J.y (op_pickF rfl rfl rfl) rfl rfl rfl ?_
                          refine J.nil ?_
                          refine J.then_n (J.k hK33 ?_)
                          refine J.keepE [(5, _), (6, _), (103, _)] ⟨rfl, rfl, rfl, trivial⟩ ?_
                          refine J.condT rfl rfl ?_
                          refine J.seq (fun K41 hK41 => ?_)
                          refine J.region ?_
                          refine J.y (op_assign rfl rfl) rfl rfl rfl ?_
                          refine J.y (op_assign rfl rfl) rfl rfl rfl ?_
                          refine J.nil ?_
                          refine J.then_n (J.k hK41 ?_)
                          refine J.keepE [(2, _), (3, _)] ⟨rfl, rfl, trivial⟩ ?_
                          refine J.ret ?_
                          refine J.then_r ?_
                          exact J.done hw0 (fun _ _ h => h) (res2 rfl rfl rfl) (retOk () (by first | (rw [hN, if_pos (by omega)] <;> rfl) | (rw [hN, if_neg (by omega)] <;> rfl)) trivial [0] rfl (by decide))
                        ·
                          refine J.yg (Wan.is rfl rfl rfl rfl rfl) (op_move rfl rfl) rfl rfl ?_
                          refine J.yg (Wan.is rfl rfl rfl rfl rfl) (op_gtr rfl rfl rfl) rfl rfl ?_
                          refine J.yg (Wan.is rfl rfl rfl rfl rfl) (op_pickF rfl rfl rfl) rfl rfl ?_
                          refine J.yg (Wan.is rfl rfl rfl rfl rfl) (op_pickT rfl rfl rfl) rfl rfl ?_
                          refine J.y (op_pickF rfl rfl rfl) rfl rfl rfl ?_
                          refine J.nil ?_
                          refine J.then_n (J.k hK33 ?_)
                          refine J.keepE [(5, _), (6, _), (103, _)] ⟨rfl, rfl, rfl, trivial⟩ ?_
                          refine J.ite rfl (fun h103 => ?_) (fun h103 => ?_)
                          ·
                            refine J.seq (fun K42 hK42 => ?_)
                            refine J.region ?_
                            refine J.y (op_assign rfl rfl) rfl rfl rfl ?_
                            refine J.y (op_assign rfl rfl) rfl rfl rfl ?_
                            refine J.nil ?_
                            refine J.then_n (J.k hK42 ?_)
                            refine J.keepE [(2, _), (3, _)] ⟨rfl, rfl, trivial⟩ ?_
                            refine J.ret ?_
                            refine J.then_r ?_
                            exact J.done hw0 (fun _ _ h => h) (res2 rfl rfl rfl) (retOk () (by first | (rw [hN, if_pos (by omega)] <;> rfl) | (rw [hN, if_neg (by omega)] <;> rfl)) trivial [0] rfl (by decide))
                          ·
                            refine J.skip ?_
                            refine J.then_n (J.k hK32 ?_)
                            refine J.keepE [(5, _), (6, _)] ⟨rfl, rfl, trivial⟩ ?_
                            refine J.seq (fun K43 hK43 => ?_)
                            refine J.region ?_
                            refine J.y (op_move rfl rfl) rfl rfl rfl ?_
                            refine J.y (op_move rfl rfl) rfl rfl rfl ?_
                            refine J.y (op_assign rfl rfl) rfl rfl rfl ?_
                            refine J.y (op_assign rfl rfl) rfl rfl rfl ?_
                            refine J.nil ?_
                            refine J.then_n (J.k hK43 ?_)
                            refine J.keepE [(2, _), (3, _)] ⟨rfl, rfl, trivial⟩ ?_
                            refine J.ret ?_
                            exact J.done hw0 (fun _ _ h => h) (res2 rfl rfl rfl) (retOk () (by first | (rw [hN, if_pos (by omega)] <;> rfl) | (rw [hN, if_neg (by omega)] <;> rfl)) trivial [0] rfl (by decide))
                      ·
                        refine J.no (Wan.is rfl rfl rfl rfl rfl) rfl rfl ?_
                        refine J.no (Wan.is rfl rfl rfl rfl rfl) rfl rfl ?_
                        refine J.no (Wan.is rfl rfl rfl rfl rfl) rfl rfl ?_
                        refine J.no (Wan.un rfl rfl rfl rfl) rfl rfl ?_
                        refine J.no (Wan.un rfl rfl rfl rfl) rfl rfl ?_
                        refine J.no (Wan.is rfl rfl rfl rfl rfl) rfl rfl ?_
                        refine J.yg (Wan.is rfl rfl rfl rfl rfl) (op_pickF rfl rfl rfl) rfl rfl ?_
                        refine J.y (op_pickF rfl rfl rfl) rfl rfl rfl ?_
                        refine J.nil ?_
                        refine J.then_n (J.k hK33 ?_)
                        refine J.keepE [(5, _), (6, _), (103, _)] ⟨rfl, rfl, rfl, trivial⟩ ?_
                        refine J.condF rfl rfl ?_
                        refine J.skip ?_
                        refine J.then_n (J.k hK32 ?_)
                        refine J.keepE [(5, _), (6, _)] ⟨rfl, rfl, trivial⟩ ?_
                        refine J.seq (fun K44 hK44 => ?_)
                        refine J.region ?_
                        refine J.y (op_move rfl rfl) rfl rfl rfl ?_
                        refine J.y (op_move rfl rfl) rfl rfl rfl ?_
                        refine J.y (op_assign rfl rfl) rfl rfl rfl ?_
                        refine J.y (op_assign rfl rfl) rfl rfl rfl ?_
                        refine J.nil ?_
                        refine J.then_n (J.k hK44 ?_)
                        refine J.keepE [(2, _), (3, _)] ⟨rfl, rfl, trivial⟩ ?_
                        refine J.ret ?_
                        exact J.done hw0 (fun _ _ h => h) (res2 rfl rfl rfl) (retOk () (by first | (rw [hN, if_pos (by omega)] <;> rfl) | (rw [hN, if_neg (by omega)] <;> rfl)) trivial [0] rfl (by decide))
                ·
                  refine J.no (Wan.is rfl rfl rfl rfl rfl) rfl rfl ?_
                  refine J.no (Wan.is rfl rfl rfl rfl rfl) rfl rfl ?_
                  refine J.no (Wan.is rfl rfl rfl rfl rfl) rfl rfl ?_
                  refine J.no (Wan.un rfl rfl rfl rfl) rfl rfl ?_
                  refine J.no (Wan.un rfl rfl rfl rfl) rfl rfl ?_
                  refine J.no (Wan.un rfl rfl rfl rfl) rfl rfl ?_
                  refine J.no (Wan.un rfl rfl rfl rfl) rfl rfl ?_
                  refine J.no (Wan.un rfl rfl rfl rfl) rfl rfl ?_
                  refine J.no (Wan.un rfl rfl rfl rfl) rfl rfl ?_
                  refine J.no (Wan.is rfl rfl rfl rfl rfl) rfl rfl ?_
                  refine J.yg (Wan.is rfl rfl rfl rfl rfl) (op_pickF rfl rfl rfl) rfl rfl ?_
                  refine J.y (op_pickF rfl rfl rfl) rfl rfl rfl ?_
                  refine J.y (op_move rfl rfl) rfl rfl rfl ?_
                  refine J.yg (Wan.is rfl rfl rfl rfl rfl) (op_move rfl rfl) rfl rfl ?_
                  refine J.yg (Wan.is rfl rfl rfl rfl rfl) (op_eql rfl rfl rfl) rfl rfl ?_
                  refine J.yg (Wan.is rfl rfl rfl rfl rfl) (op_move rfl rfl) rfl rfl ?_
                  refine J.split (d := 95) rfl (fun h95 => ?_) (fun h95 => ?_)
                  ·
                    refine J.yg (Wan.is rfl rfl rfl rfl rfl) (op_move rfl rfl) rfl rfl ?_
                    refine J.yg (Wan.is rfl rfl rfl rfl rfl) (op_lss rfl rfl rfl) rfl rfl ?_
                    refine J.yg (Wan.is rfl rfl rfl rfl rfl) (op_move rfl rfl) rfl rfl ?_
                    refine J.split (d := 98) rfl (fun h98 => ?_) (fun h98 => ?_)
                    ·
                      refine J.no (Wan.is rfl rfl rfl rfl rfl) rfl rfl ?_
                      refine J.no (Wan.is rfl rfl rfl rfl rfl) rfl rfl ?_
                      refine J.yg (Wan.is rfl rfl rfl rfl rfl) (op_pickT rfl rfl rfl) rfl rfl ?_
                      refine J.yg (Wan.is rfl rfl rfl rfl rfl) (op_pickT rfl rfl rfl) rfl rfl ?_
                      refine J.y (op_pickF rfl rfl rfl) rfl rfl rfl ?_
                      refine J.nil ?_
                      refine J.then_n (J.k hK33 ?_)
                      refine J.keepE [(5, _), (6, _), (103, _)] ⟨rfl, rfl, rfl, trivial⟩ ?_
                      refine J.condT rfl rfl ?_
                      refine J.seq (fun K45 hK45 => ?_)
                      refine J.region ?_
                      refine J.y (op_assign rfl rfl) rfl rfl rfl ?_
                      refine J.y (op_assign rfl rfl) rfl rfl rfl ?_
                      refine J.nil ?_
                      refine J.then_n (J.k hK45 ?_)
                      refine J.keepE [(2, _), (3, _)] ⟨rfl, rfl, trivial⟩ ?_
                      refine J.ret ?_
                      refine J.then_r ?_
                      exact J.done hw0 (fun _ _ h => h) (res2 rfl rfl rfl) (retOk () (by first | (rw [hN, if_pos (by omega)] <;> rfl) | (rw [hN, if_neg (by omega)] <;> rfl)) trivial [0] rfl (by decide))
                    ·
                      refine J.yg (Wan.is rfl rfl rfl rfl rfl) (op_move rfl rfl) rfl rfl ?_
                      refine J.yg (Wan.is rfl rfl rfl rfl rfl) (op_gtr rfl rfl rfl) rfl rfl ?_
                      refine J.yg (Wan.is rfl rfl rfl rfl rfl) (op_pickF rfl rfl rfl) rfl rfl ?_
                      refine J.yg (Wan.is rfl rfl rfl rfl rfl) (op_pickT rfl rfl rfl) rfl rfl ?_
                      refine J.y (op_pickF rfl rfl rfl) rfl rfl rfl ?_
                      refine J.nil ?_
                      refine J.then_n (J.k hK33 ?_)
                      refine J.keepE [(5, _), (6, _), (103, _)] ⟨rfl, rfl, rfl, trivial⟩ ?_
                      refine J.ite rfl (fun h103 => ?_) (fun h103 => ?_)
                      ·
                        refine J.seq (fun K46 hK46 => ?_)
                        refine J.region ?_
                        refine J.y (op_assign rfl rfl) rfl rfl rfl ?_
                        refine J.y (op_assign rfl rfl) rfl rfl rfl ?_
                        refine J.nil ?_
                        refine J.then_n (J.k hK46 ?_)
                        refine J.keepE [(2, _), (3, _)] ⟨rfl, rfl, trivial⟩ ?_
                        refine J.ret ?_
                        refine J.then_r ?_
                        exact J.done hw0 (fun _ _ h => h) (res2 rfl rfl rfl) (retOk () (by first | (rw [hN, if_pos (by omega)] <;> rfl) | (rw [hN, if_neg (by omega)] <;> rfl)) trivial [0] rfl (by decide))
                      ·
                        refine J.skip ?_
                        refine J.then_n (J.k hK32 ?_)
                        refine J.keepE [(5, _), (6, _)] ⟨rfl, rfl, trivial⟩ ?_
                        refine J.seq (fun K47 hK47 => ?_)
                        refine J.region ?_
                        refine J.y (op_move rfl rfl) rfl rfl rfl ?_
                        refine J.y (op_move rfl rfl) rfl rfl rfl ?_
                        refine J.y (op_assign rfl rfl) rfl rfl rfl ?_
                        refine J.y (op_assign rfl rfl) rfl rfl rfl ?_
                        refine J.nil ?_
                        refine J.then_n (J.k hK47 ?_)
                        refine J.keepE [(2, _), (3, _)] ⟨rfl, rfl, trivial⟩ ?_
                        refine J.ret ?_
                        exact J.done hw0 (fun _ _ h => h) (res2 rfl rfl rfl) (retOk () (by first | (rw [hN, if_pos (by omega)] <;> rfl) | (rw [hN, if_neg (by omega)] <;> rfl)) trivial [0] rfl (by decide))
                  ·
                    refine J.no (Wan.is rfl rfl rfl rfl rfl) rfl rfl ?_
                    refine J.no (Wan.is rfl rfl rfl rfl rfl) rfl rfl ?_
                    refine J.no (Wan.is rfl rfl rfl rfl rfl) rfl rfl ?_
                    refine J.no (Wan.un rfl rfl rfl rfl) rfl rfl ?_
                    refine J.no (Wan.un rfl rfl rfl rfl) rfl rfl ?_
                    refine J.no (Wan.is rfl rfl rfl rfl rfl) rfl rfl ?_
                    refine J.yg (Wan.is rfl rfl rfl rfl rfl) (op_pickF rfl rfl rfl) rfl rfl ?_
                    refine J.y (op_pickF rfl rfl rfl) rfl rfl rfl ?_
                    refine J.nil ?_
                    refine J.then_n (J.k hK33 ?_)
                    refine J.keepE [(5, _), (6, _), (103, _)] ⟨rfl, rfl, rfl, trivial⟩ ?_
                    refine J.condF rfl rfl ?_
                    refine J.skip ?_
                    refine J.then_n (J.k hK32 ?_)
                    refine J.keepE [(5, _), (6, _)] ⟨rfl, rfl, trivial⟩ ?_
                    refine J.seq (fun K48 hK48 => ?_)
                    refine J.region ?_
                    refine J.y (op_move rfl rfl) rfl rfl rfl ?_
                    refine J.y (op_move rfl rfl) rfl rfl rfl ?_
                    refine J.y (op_assign rfl rfl) rfl rfl rfl ?_
                    refine J.y (op_assign rfl rfl) rfl rfl rfl ?_
                    refine J.nil ?_
                    refine J.then_n (J.k hK48 ?_)
                    refine J.keepE [(2, _), (3, _)] ⟨rfl, rfl, trivial⟩ ?_
                    refine J.ret ?_
                    exact J.done hw0 (fun _ _ h => h) (res2 rfl rfl rfl) (retOk () (by first | (rw [hN, if_pos (by omega)] <;> rfl) | (rw [hN, if_neg (by omega)] <;> rfl)) trivial [0] rfl (by decide))
            ·
              refine J.no (Wan.is rfl rfl rfl rfl rfl) rfl rfl ?_
              refine J.no (Wan.is rfl rfl rfl rfl rfl) rfl rfl ?_
              refine J.y (op_pickF rfl rfl rfl) rfl rfl rfl ?_
              refine J.y (op_move rfl rfl) rfl rfl rfl ?_
              refine J.yg (Wan.is rfl rfl rfl rfl rfl) (op_move rfl rfl) rfl rfl ?_
              refine J.yg (Wan.is rfl rfl rfl rfl rfl) (op_eql rfl rfl rfl) rfl rfl ?_
              refine J.yg (Wan.is rfl rfl rfl rfl rfl) (op_move rfl rfl) rfl rfl ?_
              refine J.split (d := 79) rfl (fun h79 => ?_) (fun h79 => ?_)
              ·
                refine J.yg (Wan.is rfl rfl rfl rfl rfl) (op_move rfl rfl) rfl rfl ?_
                refine J.yg (Wan.is rfl rfl rfl rfl rfl) (op_lss rfl rfl rfl) rfl rfl ?_
                refine J.yg (Wan.is rfl rfl rfl rfl rfl) (op_move rfl rfl) rfl rfl ?_
                refine J.split (d := 82) rfl (fun h82 => ?_) (fun h82 => ?_)
                ·
                  refine J.no (Wan.is rfl rfl rfl rfl rfl) rfl rfl ?_
                  refine J.no (Wan.is rfl rfl rfl rfl rfl) rfl rfl ?_
                  refine J.no (Wan.is rfl rfl rfl rfl rfl) rfl rfl ?_
                  refine J.no (Wan.un rfl rfl rfl rfl) rfl rfl ?_
                  refine J.no (Wan.un rfl rfl rfl rfl) rfl rfl ?_
                  refine J.no (Wan.is rfl rfl rfl rfl rfl) rfl rfl ?_
                  refine J.yg (Wan.is rfl rfl rfl rfl rfl) (op_pickT rfl rfl rfl) rfl rfl ?_
                  refine J.yg (Wan.is rfl rfl rfl rfl rfl) (op_pickT rfl rfl rfl) rfl rfl ?_
                  refine J.y (op_pickF rfl rfl rfl) rfl rfl rfl ?_
                  refine J.y (op_move rfl rfl) rfl rfl rfl ?_
                  refine J.no (Wan.is rfl rfl rfl rfl rfl) rfl rfl ?_
                  refine J.no (Wan.is rfl rfl rfl rfl rfl) rfl rfl ?_
                  refine J.no (Wan.is rfl rfl rfl rfl rfl) rfl rfl ?_
                  refine J.no (Wan.un rfl rfl rfl rfl) rfl rfl ?_
                  refine J.no (Wan.un rfl rfl rfl rfl) rfl rfl ?_
                  refine J.no (Wan.un rfl rfl rfl rfl) rfl rfl ?_
                  refine J.no (Wan.un rfl rfl rfl rfl) rfl rfl ?_
                  refine J.no (Wan.un rfl rfl rfl rfl) rfl rfl ?_
                  refine J.no (Wan.un rfl rfl rfl rfl) rfl rfl ?_
                  refine J.no (Wan.is rfl rfl rfl rfl rfl) rfl rfl ?_
                  refine J.y (op_pickT rfl rfl rfl) rfl rfl rfl ?_
                  refine J.nil ?_
                  refine J.then_n (J.k hK33 ?_)
                  refine J.keepE [(5, _), (6, _), (103, _)] ⟨rfl, rfl, rfl, trivial⟩ ?_
                  refine J.condT rfl rfl ?_
                  refine J.seq (fun K49 hK49 => ?_)
                  refine J.region ?_
                  refine J.y (op_assign rfl rfl) rfl rfl rfl ?_
                  refine J.y (op_assign rfl rfl) rfl rfl rfl ?_
                  refine J.nil ?_
                  refine J.then_n (J.k hK49 ?_)
                  refine J.keepE [(2, _), (3, _)] ⟨rfl, rfl, trivial⟩ ?_
                  refine J.ret ?_
                  refine J.then_r ?_
                  exact J.done hw0 (fun _ _ h => h) (res2 rfl rfl rfl) (retOk () (by first | (rw [hN, if_pos (by omega)] <;> rfl) | (rw [hN, if_neg (by omega)] <;> rfl)) trivial [0] rfl (by decide))
                ·
                  refine J.yg (Wan.is rfl rfl rfl rfl rfl) (op_move rfl rfl) rfl rfl ?_
                  refine J.yg (Wan.is rfl rfl rfl rfl rfl) (op_geq rfl rfl rfl) rfl rfl ?_
                  refine J.yg (Wan.is rfl rfl rfl rfl rfl) (op_move rfl rfl) rfl rfl ?_
                  refine J.split (d := 85) rfl (fun h85 => ?_) (fun h85 => ?_)
                  ·
                    refine J.yg (Wan.is rfl rfl rfl rfl rfl) (op_move rfl rfl) rfl rfl ?_
                    refine J.yg (Wan.is rfl rfl rfl rfl rfl) (op_lss rfl rfl rfl) rfl rfl ?_
                    refine J.yg (Wan.is rfl rfl rfl rfl rfl) (op_pickT rfl rfl rfl) rfl rfl ?_
                    refine J.yg (Wan.is rfl rfl rfl rfl rfl) (op_pickF rfl rfl rfl) rfl rfl ?_
                    refine J.yg (Wan.is rfl rfl rfl rfl rfl) (op_pickT rfl rfl rfl) rfl rfl ?_
                    refine J.y (op_pickF rfl rfl rfl) rfl rfl rfl ?_
                    refine J.y (op_move rfl rfl) rfl rfl rfl ?_
                    refine J.split (d := 92) rfl (fun h92 => ?_) (fun h92 => ?_)
                    ·
                      refine J.no (Wan.is rfl rfl rfl rfl rfl) rfl rfl ?_
                      refine J.no (Wan.is rfl rfl rfl rfl rfl) rfl rfl ?_
                      refine J.no (Wan.is rfl rfl rfl rfl rfl) rfl rfl ?_
                      refine J.no (Wan.un rfl rfl rfl rfl) rfl rfl ?_
                      refine J.no (Wan.un rfl rfl rfl rfl) rfl rfl ?_
                      refine J.no (Wan.un rfl rfl rfl rfl) rfl rfl ?_
                      refine J.no (Wan.un rfl rfl rfl rfl) rfl rfl ?_
                      refine J.no (Wan.un rfl rfl rfl rfl) rfl rfl ?_
                      refine J.no (Wan.un rfl rfl rfl rfl) rfl rfl ?_
                      refine J.no (Wan.is rfl rfl rfl rfl rfl) rfl rfl ?_
                      refine J.y (op_pickT rfl rfl rfl) rfl rfl rfl ?_
                      refine J.nil ?_
                      refine J.then_n (J.k hK33 ?_)
                      refine J.keepE [(5, _), (6, _), (103, _)] ⟨rfl, rfl, rfl, trivial⟩ ?_
                      refine J.condT rfl rfl ?_
                      refine J.seq (fun K50 hK50 => ?_)
                      refine J.region ?_
                      refine J.y (op_assign rfl rfl) rfl rfl rfl ?_
                      refine J.y (op_assign rfl rfl) rfl rfl rfl ?_
                      refine J.nil ?_
                      refine J.then_n (J.k hK50 ?_)
                      refine J.keepE [(2, _), (3, _)] ⟨rfl, rfl, trivial⟩ ?_
                      refine J.ret ?_
                      refine J.then_r ?_
                      exact J.done hw0 (fun _ _ h => h) (res2 rfl rfl rfl) (retOk () (by first | (rw [hN, if_pos (by omega)] <;> rfl) | (rw [hN, if_neg (by omega)] <;> rfl)) trivial [0] rfl (by decide))
                    ·
                      refine J.yg (Wan.is rfl rfl rfl rfl rfl) (op_move rfl rfl) rfl rfl ?_
                      refine J.yg (Wan.is rfl rfl rfl rfl rfl) (op_eql rfl rfl rfl) rfl rfl ?_
                      refine J.yg (Wan.is rfl rfl rfl rfl rfl) (op_move rfl rfl) rfl rfl ?_
                      refine J.split (d := 95) rfl (fun h95 => ?_) (fun h95 => ?_)
                      ·
                        refine J.yg (Wan.is rfl rfl rfl rfl rfl) (op_move rfl rfl) rfl rfl ?_
                        refine J.yg (Wan.is rfl rfl rfl rfl rfl) (op_lss rfl rfl rfl) rfl rfl ?_
                        refine J.yg (Wan.is rfl rfl rfl rfl rfl) (op_move rfl rfl) rfl rfl ?_
                        refine J.split (d := 98) rfl (fun h98 => ?_) (fun h98 => ?_)
                        ·
                          refine J.no (Wan.is rfl rfl rfl rfl rfl) rfl rfl ?_
                          refine J.no (Wan.is rfl rfl rfl rfl rfl) rfl rfl ?_
                          refine J.yg (Wan.is rfl rfl rfl rfl rfl) (op_pickT rfl rfl rfl) rfl rfl ?_
                          refine J.yg (Wan.is rfl rfl rfl rfl rfl) (op_pickT rfl rfl rfl) rfl rfl ?_
                          refine J.y (op_pickF rfl rfl rfl) rfl rfl rfl ?_
                          refine J.nil ?_
                          refine J.then_n (J.k hK33 ?_)
                          refine J.keepE [(5, _), (6, _), (103, _)] ⟨rfl, rfl, rfl, trivial⟩ ?_
                          refine J.condT rfl rfl ?_
                          refine J.seq (fun K51 hK51 => ?_)
                          refine J.region ?_
                          refine J.y (op_assign rfl rfl) rfl rfl rfl ?_
                          refine J.y (op_assign rfl rfl) rfl rfl rfl ?_
                          refine J.nil ?_
                          refine J.then_n (J.k hK51 ?_)
                          refine J.keepE [(2, _), (3, _)] ⟨rfl, rfl, trivial⟩ ?_
                          refine J.ret ?_
                          refine J.then_r ?_
                          exact J.done hw0 (fun _ _ h => h) (res2 rfl rfl rfl) (retOk () (by first | (rw [hN, if_pos (by omega)] <;> rfl) | (rw [hN, if_neg (by omega)] <;> rfl)) trivial [0] rfl (by decide))
                        ·
                          refine J.yg (Wan.is rfl rfl rfl rfl rfl) (op_move rfl rfl) rfl rfl ?_
                          refine J.yg (Wan.is rfl rfl rfl rfl rfl) (op_gtr rfl rfl rfl) rfl rfl ?_
                          refine J.yg (Wan.is rfl rfl rfl rfl rfl) (op_pickF rfl rfl rfl) rfl rfl ?_
                          refine J.yg (Wan.is rfl rfl rfl rfl rfl) (op_pickT rfl rfl rfl) rfl rfl ?_
                          refine J.y (op_pickF rfl rfl rfl) rfl rfl rfl ?_
                          refine J.nil ?_
                          refine J.then_n (J.k hK33 ?_)
                          refine J.keepE [(5, _), (6, _), (103, _)] ⟨rfl, rfl, rfl, trivial⟩ ?_
                          refine J.ite rfl (fun h103 => ?_) (fun h103 => ?_)
                          ·
                            refine J.seq (fun K52 hK52 => ?_)
                            refine J.region ?_
                            refine J.y (op_assign rfl rfl) rfl rfl rfl ?_
                            refine J.y (op_assign rfl rfl) rfl rfl rfl ?_
                            refine J.nil ?_
                            refine J.then_n (J.k hK52 ?_)
                            refine J.keepE [(2, _), (3, _)] ⟨rfl, rfl, trivial⟩ ?_
                            refine J.ret ?_
                            refine J.then_r ?_
                            exact J.done hw0 (fun _ _ h => h) (res2 rfl rfl rfl) (retOk () (by first | (rw [hN, if_pos (by omega)] <;> rfl) | (rw [hN, if_neg (by omega)] <;> rfl)) trivial [0] rfl (by decide))
                          ·
                            refine J.skip ?_
                            refine J.then_n (J.k hK32 ?_)
                            refine J.keepE [(5, _), (6, _)] ⟨rfl, rfl, trivial⟩ ?_
                            refine J.seq (fun K53 hK53 => ?_)
                            refine J.region ?_
                            refine J.y (op_move rfl rfl) rfl rfl rfl ?_
                            refine J.y (op_move rfl rfl) rfl rfl rfl ?_
                            refine J.y (op_assign rfl rfl) rfl rfl rfl ?_
                            refine J.y (op_assign rfl rfl) rfl rfl rfl ?_
                            refine J.nil ?_
                            refine J.then_n (J.k hK53 ?_)
                            refine J.keepE [(2, _), (3, _)] ⟨rfl, rfl, trivial⟩ ?_
                            refine J.ret ?_
                            exact J.done hw0 (fun _ _ h => h) (res2 rfl rfl rfl) (retOk () (by first | (rw [hN, if_pos (by omega)] <;> rfl) | (rw [hN, if_neg (by omega)] <;> rfl)) trivial [0] rfl (by decide))
                      ·
                        refine J.no (Wan.is rfl rfl rfl rfl rfl) rfl rfl ?_
                        refine J.no (Wan.is rfl rfl rfl rfl rfl) rfl rfl ?_
                        refine J.no (Wan.is rfl rfl rfl rfl rfl) rfl rfl ?_
                        refine J.no (Wan.un rfl rfl rfl rfl) rfl rfl ?_
                        refine J.no (Wan.un rfl rfl rfl rfl) rfl rfl ?_
                        refine J.no (Wan.is rfl rfl rfl rfl rfl) rfl rfl ?_
                        refine J.yg (Wan.is rfl rfl rfl rfl rfl) (op_pickF rfl rfl rfl) rfl rfl ?_
                        refine J.y (op_pickF rfl rfl rfl) rfl rfl rfl ?_
                        refine J.nil ?_
                        refine J.then_n (J.k hK33 ?_)
                        refine J.keepE [(5, _), (6, _), (103, _)] ⟨rfl, rfl, rfl, trivial⟩ ?_
                        refine J.condF rfl rfl ?_
                        refine J.skip ?_
                        refine J.then_n (J.k hK32 ?_)
                        refine J.keepE [(5, _), (6, _)] ⟨rfl, rfl, trivial⟩ ?_
                        refine J.seq (fun K54 hK54 => ?_)
                        refine J.region ?_
                        refine J.y (op_move rfl rfl) rfl rfl rfl ?_
                        refine J.y (op_move rfl rfl) rfl rfl rfl ?_
                        refine J.y (op_assign rfl rfl) rfl rfl rfl ?_
                        refine J.y (op_assign rfl rfl) rfl rfl rfl ?_
                        refine J.nil ?_
                        refine J.then_n (J.k hK54 ?_)
                        refine J.keepE [(2, _), (3, _)] ⟨rfl, rfl, trivial⟩ ?_
                        refine J.ret ?_
                        exact J.done hw0 (fun _ _ h => h) (res2 rfl rfl rfl) (retOk () (by first | (rw [hN, if_pos (by omega)] <;> rfl) | (rw [hN, if_neg (by omega)] <;> rfl)) trivial [0] rfl (by decide))
                  ·
                    refine J.no (Wan.is rfl rfl rfl rfl rfl) rfl rfl ?_
                    refine J.no (Wan.is rfl rfl rfl rfl rfl) rfl rfl ?_
                    refine J.yg (Wan.is rfl rfl rfl rfl rfl) (op_pickF rfl rfl rfl) rfl rfl ?_
                    refine J.yg (Wan.is rfl rfl rfl rfl rfl) (op_pickF rfl rfl rfl) rfl rfl ?_
                    refine J.yg (Wan.is rfl rfl rfl rfl rfl) (op_pickT rfl rfl rfl) rfl rfl ?_
                    refine J.y (op_pickF rfl rfl rfl) rfl rfl rfl ?_
                    refine J.y (op_move rfl rfl) rfl rfl rfl ?_
                    refine J.yg (Wan.is rfl rfl rfl rfl rfl) (op_move rfl rfl) rfl rfl ?_
                    refine J.yg (Wan.is rfl rfl rfl rfl rfl) (op_eql rfl rfl rfl) rfl rfl ?_
                    refine J.yg (Wan.is rfl rfl rfl rfl rfl) (op_move rfl rfl) rfl rfl ?_
                    refine J.split (d := 95) rfl (fun h95 => ?_) (fun h95 => ?_)
                    ·
                      refine J.yg (Wan.is rfl rfl rfl rfl rfl) (op_move rfl rfl) rfl rfl ?_
                      refine J.yg (Wan.is rfl rfl rfl rfl rfl) (op_lss rfl rfl rfl) rfl rfl ?_
                      refine J.yg (Wan.is rfl rfl rfl rfl rfl) (op_move rfl rfl) rfl rfl ?_
                      refine J.split (d := 98) rfl (fun h98 => ?_) (fun h98 => ?_)
                      ·
                        refine J.no (Wan.is rfl rfl rfl rfl rfl) rfl rfl ?_
                        refine J.no (Wan.is rfl rfl rfl rfl rfl) rfl rfl ?_
                        refine J.yg (Wan.is rfl rfl rfl rfl rfl) (op_pickT rfl rfl rfl) rfl rfl ?_
                        refine J.yg (Wan.is rfl rfl rfl rfl rfl) (op_pickT rfl rfl rfl) rfl rfl ?_
                        refine J.y (op_pickF rfl rfl rfl) rfl rfl rfl ?_
                        refine J.nil ?_
                        refine J.then_n (J.k hK33 ?_)
                        refine J.keepE [(5, _), (6, _), (103, _)] ⟨rfl, rfl, rfl, trivial⟩ ?_
                        refine J.condT rfl rfl ?_
                        refine J.seq (fun K55 hK55 => ?_)
                        refine J.region ?_
                        refine J.y (op_assign rfl rfl) rfl rfl rfl ?_
                        refine J.y (op_assign rfl rfl) rfl rfl rfl ?_
                        refine J.nil ?_
                        refine J.then_n (J.k hK55 ?_)
                        refine J.keepE [(2, _), (3, _)] ⟨rfl, rfl, trivial⟩ ?_
                        refine J.ret ?_
                        refine J.then_r ?_
                        exact J.done hw0 (fun _ _ h => h) (res2 rfl rfl rfl) (retOk () (by first | (rw [hN, if_pos (by omega)] <;> rfl) | (rw [hN, if_neg (by omega)] <;> rfl)) trivial [0] rfl (by decide))
                      ·
                        refine J.yg (Wan.is rfl rfl rfl rfl rfl) (op_move rfl rfl) rfl rfl ?_
                        refine J.yg (Wan.is rfl rfl rfl rfl rfl) (op_gtr rfl rfl rfl) rfl rfl ?_
                        refine J.yg (Wan.is rfl rfl rfl rfl rfl) (op_pickF rfl rfl rfl) rfl rfl ?_
                        refine J.yg (Wan.is rfl rfl rfl rfl rfl) (op_pickT rfl rfl rfl) rfl rfl ?_
                        refine J.y (op_pickF rfl rfl rfl) rfl rfl rfl ?_
                        refine J.nil ?_
                        refine J.then_n (J.k hK33 ?_)
                        refine J.keepE [(5, _), (6, _), (103, _)] ⟨rfl, rfl, rfl, trivial⟩ ?_
                        refine J.ite rfl (fun h103 => ?_) (fun h103 => ?_)
                        ·
                          refine J.seq (fun K56 hK56 => ?_)
                          refine J.region ?_
                          refine J.y (op_assign rfl rfl) rfl rfl rfl ?_
                          refine J.y (op_assign rfl rfl) rfl rfl rfl ?_
                          refine J.nil ?_
                          refine J.then_n (J.k hK56 ?_)
                          refine J.keepE [(2, _), (3, _)] ⟨rfl, rfl, trivial⟩ ?_
                          refine J.ret ?_
                          refine J.then_r ?_
                          exact J.done hw0 (fun _ _ h => h) (res2 rfl rfl rfl) (retOk () (by first | (rw [hN, if_pos (by omega)] <;> rfl) | (rw [hN, if_neg (by omega)] <;> rfl)) trivial [0] rfl (by decide))
                        ·
                          refine J.skip ?_
                          refine J.then_n (J.k hK32 ?_)
                          refine J.keepE [(5, _), (6, _)] ⟨rfl, rfl, trivial⟩ ?_
                          refine J.seq (fun K57 hK57 => ?_)
                          refine J.region ?_
                          refine J.y (op_move rfl rfl) rfl rfl rfl ?_
                          refine J.y (op_move rfl rfl) rfl rfl rfl ?_
                          refine J.y (op_assign rfl rfl) rfl rfl rfl ?_
                          refine J.y (op_assign rfl rfl) rfl rfl rfl ?_
                          refine J.nil ?_
                          refine J.then_n (J.k hK57 ?_)
                          refine J.keepE [(2, _), (3, _)] ⟨rfl, rfl, trivial⟩ ?_
                          refine J.ret ?_
                          exact J.done hw0 (fun _ _ h => h) (res2 rfl rfl rfl) (retOk () (by first | (rw [hN, if_pos (by omega)] <;> rfl) | (rw [hN, if_neg (by omega)] <;> rfl)) trivial [0] rfl (by decide))
                    ·
                      refine J.no (Wan.is rfl rfl rfl rfl rfl) rfl rfl ?_
                      refine J.no (Wan.is rfl rfl rfl rfl rfl) rfl rfl ?_
                      refine J.no (Wan.is rfl rfl rfl rfl rfl) rfl rfl ?_
                      refine J.no (Wan.un rfl rfl rfl rfl) rfl rfl ?_
                      refine J.no (Wan.un rfl rfl rfl rfl) rfl rfl ?_
                      refine J.no (Wan.is rfl rfl rfl rfl rfl) rfl rfl ?_
                      refine J.yg (Wan.is rfl rfl rfl rfl rfl) (op_pickF rfl rfl rfl) rfl rfl ?_
                      refine J.y (op_pickF rfl rfl rfl) rfl rfl rfl ?_
                      refine J.nil ?_
                      refine J.then_n (J.k hK33 ?_)
                      refine J.keepE [(5, _), (6, _), (103, _)] ⟨rfl, rfl, rfl, trivial⟩ ?_
                      refine J.condF rfl rfl ?_
                      refine J.skip ?_
                      refine J.then_n (J.k hK32 ?_)
                      refine J.keepE [(5, _), (6, _)] ⟨rfl, rfl, trivial⟩ ?_
                      refine J.seq (fun K58 hK58 => ?_)
                      refine J.region ?_
                      refine J.y (op_move rfl rfl) rfl rfl rfl ?_
                      refine J.y (op_move rfl rfl) rfl rfl rfl ?_
                      refine J.y (op_assign rfl rfl) rfl rfl rfl ?_
                      refine J.y (op_assign rfl rfl) rfl rfl rfl ?_
                      refine J.nil ?_
                      refine J.then_n (J.k hK58 ?_)
                      refine J.keepE [(2, _), (3, _)] ⟨rfl, rfl, trivial⟩ ?_
                      refine J.ret ?_
                      exact J.done hw0 (fun _ _ h => h) (res2 rfl rfl rfl) (retOk () (by first | (rw [hN, if_pos (by omega)] <;> rfl) | (rw [hN, if_neg (by omega)] <;> rfl)) trivial [0] rfl (by decide))
              ·
                refine J.no (Wan.is rfl rfl rfl rfl rfl) rfl rfl ?_
                refine J.no (Wan.is rfl rfl rfl rfl rfl) rfl rfl ?_
                refine J.no (Wan.is rfl rfl rfl rfl rfl) rfl rfl ?_
                refine J.no (Wan.un rfl rfl rfl rfl) rfl rfl ?_
                refine J.no (Wan.un rfl rfl rfl rfl) rfl rfl ?_
                refine J.no (Wan.un rfl rfl rfl rfl) rfl rfl ?_
                refine J.no (Wan.un rfl rfl rfl rfl) rfl rfl ?_
                refine J.no (Wan.un rfl rfl rfl rfl) rfl rfl ?_
                refine J.no (Wan.un rfl rfl rfl rfl) rfl rfl ?_
                refine J.no (Wan.is rfl rfl rfl rfl rfl) rfl rfl ?_
                refine J.yg (Wan.is rfl rfl rfl rfl rfl) (op_pickF rfl rfl rfl) rfl rfl ?_
                refine J.y (op_pickF rfl rfl rfl) rfl rfl rfl ?_
                refine J.y (op_move rfl rfl) rfl rfl rfl ?_
                refine J.yg (Wan.is rfl rfl rfl rfl rfl) (op_move rfl rfl) rfl rfl ?_
                refine J.yg (Wan.is rfl rfl rfl rfl rfl) (op_eql rfl rfl rfl) rfl rfl ?_
                refine J.yg (Wan.is rfl rfl rfl rfl rfl) (op_move rfl rfl) rfl rfl ?_
                refine J.split (d := 95) rfl (fun h95 => ?_) (fun h95 => ?_)
                ·
                  refine J.yg (Wan.is rfl rfl rfl rfl rfl) (op_move rfl rfl) rfl rfl ?_
                  refine J.yg (Wan.is rfl rfl rfl rfl rfl) (op_lss rfl rfl rfl) rfl rfl ?_
                  refine J.yg (Wan.is rfl rfl rfl rfl rfl) (op_move rfl rfl) rfl rfl ?_
                  refine J.split (d := 98) rfl (fun h98 => ?_) (fun h98 => ?_)
                  ·
                    refine J.no (Wan.is rfl rfl rfl rfl rfl) rfl rfl ?_
                    refine J.no (Wan.is rfl rfl rfl rfl rfl) rfl rfl ?_
                    refine J.yg (Wan.is rfl rfl rfl rfl rfl) (op_pickT rfl rfl rfl) rfl rfl ?_
                    refine J.yg (Wan.is rfl rfl rfl rfl rfl) (op_pickT rfl rfl rfl) rfl rfl ?_
                    refine J.y (op_pickF rfl rfl rfl) rfl rfl rfl ?_
                    refine J.nil ?_
                    refine J.then_n (J.k hK33 ?_)
                    refine J.keepE [(5, _), (6, _), (103, _)] ⟨rfl, rfl, rfl, trivial⟩ ?_
                    refine J.condT rfl rfl ?_
                    refine J.seq (fun K59 hK59 => ?_)
                    refine J.region ?_
                    refine J.y (op_assign rfl rfl) rfl rfl rfl ?_
                    refine J.y (op_assign rfl rfl) rfl rfl rfl ?_
                    refine J.nil ?_
                    refine J.then_n (J.k hK59 ?_)
                    refine J.keepE [(2, _), (3, _)] ⟨rfl, rfl, trivial⟩ ?_
                    refine J.ret ?_
                    refine J.then_r ?_
                    exact J.done hw0 (fun _ _ h => h) (res2 rfl rfl rfl) (retOk () (by first | (rw [hN, if_pos (by omega)] <;> rfl) | (rw [hN, if_neg (by omega)] <;> rfl)) trivial [0] rfl (by decide))
                  ·
                    refine J.yg (Wan.is rfl rfl rfl rfl rfl) (op_move rfl rfl) rfl rfl ?_
                    refine J.yg (Wan.is rfl rfl rfl rfl rfl) (op_gtr rfl rfl rfl) rfl rfl ?_
                    refine J.yg (Wan.is rfl rfl rfl rfl rfl) (op_pickF rfl rfl rfl) rfl rfl ?_
                    refine J.yg (Wan.is rfl rfl rfl rfl rfl) (op_pickT rfl rfl rfl) rfl rfl ?_
                    refine J.y (op_pickF rfl rfl rfl) rfl rfl rfl ?_
                    refine J.nil ?_
                    refine J.then_n (J.k hK33 ?_)
                    refine J.keepE [(5, _), (6, _), (103, _)] ⟨rfl, rfl, rfl, trivial⟩ ?_
                    refine J.ite rfl (fun h103 => ?_) (fun h103 => ?_)
                    ·
                      refine J.seq (fun K60 hK60 => ?_)
                      refine J.region ?_
                      refine J.y (op_assign rfl rfl) rfl rfl rfl ?_
                      refine J.y (op_assign rfl rfl) rfl rfl rfl ?_
                      refine J.nil ?_
                      refine J.then_n (J.k hK60 ?_)
                      refine J.keepE [(2, _), (3, _)] ⟨rfl, rfl, trivial⟩ ?_
                      refine J.ret ?_
                      refine J.then_r ?_
                      exact J.done hw0 (fun _ _ h => h) (res2 rfl rfl rfl) (retOk () (by first | (rw [hN, if_pos (by omega)] <;> rfl) | (rw [hN, if_neg (by omega)] <;> rfl)) trivial [0] rfl (by decide))
                    ·
                      refine J.skip ?_
                      refine J.then_n (J.k hK32 ?_)
                      refine J.keepE [(5, _), (6, _)] ⟨rfl, rfl, trivial⟩ ?_
                      refine J.seq (fun K61 hK61 => ?_)
                      refine J.region ?_
                      refine J.y (op_move rfl rfl) rfl rfl rfl ?_
                      refine J.y (op_move rfl rfl) rfl rfl rfl ?_
                      refine J.y (op_assign rfl rfl) rfl rfl rfl ?_
                      refine J.y (op_assign rfl rfl) rfl rfl rfl ?_
                      refine J.nil ?_
                      refine J.then_n (J.k hK61 ?_)
                      refine J.keepE [(2, _), (3, _)] ⟨rfl, rfl, trivial⟩ ?_
                      refine J.ret ?_
                      exact J.done hw0 (fun _ _ h => h) (res2 rfl rfl rfl) (retOk () (by first | (rw [hN, if_pos (by omega)] <;> rfl) | (rw [hN, if_neg (by omega)] <;> rfl)) trivial [0] rfl (by decide))
                ·
                  refine J.no (Wan.is rfl rfl rfl rfl rfl) rfl rfl ?_
                  refine J.no (Wan.is rfl rfl rfl rfl rfl) rfl rfl ?_
                  refine J.no (Wan.is rfl rfl rfl rfl rfl) rfl rfl ?_
                  refine J.no (Wan.un rfl rfl rfl rfl) rfl rfl ?_
                  refine J.no (Wan.un rfl rfl rfl rfl) rfl rfl ?_
                  refine J.no (Wan.is rfl rfl rfl rfl rfl) rfl rfl ?_
                  refine J.yg (Wan.is rfl rfl rfl rfl rfl) (op_pickF rfl rfl rfl) rfl rfl ?_
                  refine J.y (op_pickF rfl rfl rfl) rfl rfl rfl ?_
                  refine J.nil ?_
                  refine J.then_n (J.k hK33 ?_)
                  refine J.keepE [(5, _), (6, _), (103, _)] ⟨rfl, rfl, rfl, trivial⟩ ?_
                  refine J.condF rfl rfl ?_
                  refine J.skip ?_
                  refine J.then_n (J.k hK32 ?_)
                  refine J.keepE [(5, _), (6, _)] ⟨rfl, rfl, trivial⟩ ?_
                  refine J.seq (fun K62 hK62 => ?_)
                  refine J.region ?_
                  refine J.y (op_move rfl rfl) rfl rfl rfl ?_
                  refine J.y (op_move rfl rfl) rfl rfl rfl ?_
                  refine J.y (op_assign rfl rfl) rfl rfl rfl ?_
                  refine J.y (op_assign rfl rfl) rfl rfl rfl ?_
                  refine J.nil ?_
                  refine J.then_n (J.k hK62 ?_)
                  refine J.keepE [(2, _), (3, _)] ⟨rfl, rfl, trivial⟩ ?_
                  refine J.ret ?_
                  exact J.done hw0 (fun _ _ h => h) (res2 rfl rfl rfl) (retOk () (by first | (rw [hN, if_pos (by omega)] <;> rfl) | (rw [hN, if_neg (by omega)] <;> rfl)) trivial [0] rfl (by decide))

end Go.Proofs.YtpcffgkmpmcobaaDoor
