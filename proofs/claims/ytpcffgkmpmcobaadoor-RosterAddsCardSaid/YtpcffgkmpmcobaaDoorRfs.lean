/- A part of the proof: contracts of functions of the program, each for every state of the heaps that it names. -/
import Derived.Test.YtpcffgkmpmcobaaDoorLab
set_option linter.unusedSimpArgs false
set_option linter.unusedVariables false
namespace Go.Proofs.YtpcffgkmpmcobaaDoor
open Go Go.Fw
set_option maxRecDepth 100000
set_option maxHeartbeats 1000000
theorem ent19 : Enters Tryd.prog 19 := Enters.of Tryd.func19 rfl (by kernel_rfl)

theorem smallr_ct (F : Hp) (r : Nat) (hr : r ≤ 1073741824) : Ct Tryd.prog 19 [I ((r : Nat) : Int)] [F] (fun _ : Unit => I ((small r : Nat) : Int)) (fun _ => True) (fun _ => [F]) := by
  refine Ct.walk Tryd.func19 rfl Tryd.ntmps19 rfl (fun w0 hw0 => ?_)
  change J _ [(0, _)] _ _ _
  refine J.seq (fun K1 hK1 => ?_)
  refine J.region ?_
  refine J.y (op_assign rfl rfl) rfl rfl rfl ?_
  refine J.nil ?_
  refine J.then_n (J.k hK1 ?_)
  refine J.keepE [(0, _)] ⟨rfl, trivial⟩ ?_
  refine J.seq (fun K2 hK2 => ?_)
  refine J.seq (fun K3 hK3 => ?_)
  refine J.region ?_
  refine J.y (op_move rfl rfl) rfl rfl rfl ?_
  refine J.y (op_geq rfl rfl rfl) rfl rfl rfl ?_
  refine J.y (op_move rfl rfl) rfl rfl rfl ?_
  refine J.split (d := 5) rfl (fun h5 => ?_) (fun h5 => ?_)
  ·
    refine J.yg (Wan.is rfl rfl rfl rfl rfl) (op_move rfl rfl) rfl rfl ?_
    refine J.yg (Wan.is rfl rfl rfl rfl rfl) (op_leq rfl rfl rfl) rfl rfl ?_
    refine J.y (op_pickT rfl rfl rfl) rfl rfl rfl ?_
    refine J.y (op_move rfl rfl) rfl rfl rfl ?_
    refine J.split (d := 9) rfl (fun h9 => ?_) (fun h9 => ?_)
    ·
      refine J.no (Wan.is rfl rfl rfl rfl rfl) rfl rfl ?_
      refine J.no (Wan.is rfl rfl rfl rfl rfl) rfl rfl ?_
      refine J.no (Wan.is rfl rfl rfl rfl rfl) rfl rfl ?_
      refine J.no (Wan.un rfl rfl rfl rfl) rfl rfl ?_
      refine J.no (Wan.un rfl rfl rfl rfl) rfl rfl ?_
      refine J.no (Wan.is rfl rfl rfl rfl rfl) rfl rfl ?_
      refine J.no (Wan.is rfl rfl rfl rfl rfl) rfl rfl ?_
      refine J.no (Wan.un rfl rfl rfl rfl) rfl rfl ?_
      refine J.no (Wan.un rfl rfl rfl rfl) rfl rfl ?_
      refine J.no (Wan.is rfl rfl rfl rfl rfl) rfl rfl ?_
      refine J.y (op_pickT rfl rfl rfl) rfl rfl rfl ?_
      refine J.y (op_move rfl rfl) rfl rfl rfl ?_
      refine J.no (Wan.is rfl rfl rfl rfl rfl) rfl rfl ?_
      refine J.no (Wan.is rfl rfl rfl rfl rfl) rfl rfl ?_
      refine J.no (Wan.is rfl rfl rfl rfl rfl) rfl rfl ?_
      refine J.no (Wan.un rfl rfl rfl rfl) rfl rfl ?_
      refine J.no (Wan.un rfl rfl rfl rfl) rfl rfl ?_
      refine J.no (Wan.is rfl rfl rfl rfl rfl) rfl rfl ?_
      refine J.y (op_pickT rfl rfl rfl) rfl rfl rfl ?_
      refine J.nil ?_
      refine J.then_n (J.k hK3 ?_)
      refine J.keepE [(0, _), (28, _)] ⟨rfl, rfl, trivial⟩ ?_
      refine J.condT rfl rfl ?_
      refine J.seq (fun K4 hK4 => ?_)
      refine J.region ?_
      refine J.y (op_move rfl rfl) rfl rfl rfl ?_
      refine J.y ((op_add rfl rfl rfl (by first | omega | (simp only [List.length_append, List.length_cons, List.length_nil, List.length_take, List.length_drop] at *; omega))).as (v' := I ((r + 32 : Nat) : Int)) (congrArg I (by omega))) rfl rfl rfl ?_
      refine J.y (op_assign rfl rfl) rfl rfl rfl ?_
      refine J.nil ?_
      refine J.then_n (J.k hK4 ?_)
      refine J.keepE [(2, _)] ⟨rfl, trivial⟩ ?_
      refine J.ret ?_
      refine J.then_r ?_
      exact J.done hw0 (fun _ _ h => h) (res1 rfl rfl) (retOk () (by unfold small; first | (exfalso; omega) | rw [if_pos (by omega)] | rw [if_neg (by omega)]) trivial [0] rfl (by decide))
    ·
      refine J.yg (Wan.is rfl rfl rfl rfl rfl) (op_move rfl rfl) rfl rfl ?_
      refine J.yg (Wan.is rfl rfl rfl rfl rfl) (op_geq rfl rfl rfl) rfl rfl ?_
      refine J.yg (Wan.is rfl rfl rfl rfl rfl) (op_move rfl rfl) rfl rfl ?_
      refine J.split (d := 12) rfl (fun h12 => ?_) (fun h12 => ?_)
      ·
        refine J.yg (Wan.is rfl rfl rfl rfl rfl) (op_move rfl rfl) rfl rfl ?_
        refine J.yg (Wan.is rfl rfl rfl rfl rfl) (op_leq rfl rfl rfl) rfl rfl ?_
        refine J.yg (Wan.is rfl rfl rfl rfl rfl) (op_pickT rfl rfl rfl) rfl rfl ?_
        refine J.yg (Wan.is rfl rfl rfl rfl rfl) (op_move rfl rfl) rfl rfl ?_
        refine J.split (d := 16) rfl (fun h16 => ?_) (fun h16 => ?_)
        ·
          refine J.yg (Wan.is rfl rfl rfl rfl rfl) (op_move rfl rfl) rfl rfl ?_
          refine J.yg (Wan.is rfl rfl rfl rfl rfl) (op_neq rfl rfl rfl) rfl rfl ?_
          refine J.yg (Wan.is rfl rfl rfl rfl rfl) (op_pickT rfl rfl rfl) rfl rfl ?_
          refine J.y (op_pickF rfl rfl rfl) rfl rfl rfl ?_
          refine J.y (op_move rfl rfl) rfl rfl rfl ?_
          refine J.split (d := 21) rfl (fun h21 => ?_) (fun h21 => ?_)
          ·
            refine J.no (Wan.is rfl rfl rfl rfl rfl) rfl rfl ?_
            refine J.no (Wan.is rfl rfl rfl rfl rfl) rfl rfl ?_
            refine J.no (Wan.is rfl rfl rfl rfl rfl) rfl rfl ?_
            refine J.no (Wan.un rfl rfl rfl rfl) rfl rfl ?_
            refine J.no (Wan.un rfl rfl rfl rfl) rfl rfl ?_
            refine J.no (Wan.is rfl rfl rfl rfl rfl) rfl rfl ?_
            refine J.y (op_pickT rfl rfl rfl) rfl rfl rfl ?_
            refine J.nil ?_
            refine J.then_n (J.k hK3 ?_)
            refine J.keepE [(0, _), (28, _)] ⟨rfl, rfl, trivial⟩ ?_
            refine J.condT rfl rfl ?_
            refine J.seq (fun K5 hK5 => ?_)
            refine J.region ?_
            refine J.y (op_move rfl rfl) rfl rfl rfl ?_
            refine J.y ((op_add rfl rfl rfl (by first | omega | (simp only [List.length_append, List.length_cons, List.length_nil, List.length_take, List.length_drop] at *; omega))).as (v' := I ((r + 32 : Nat) : Int)) (congrArg I (by omega))) rfl rfl rfl ?_
            refine J.y (op_assign rfl rfl) rfl rfl rfl ?_
            refine J.nil ?_
            refine J.then_n (J.k hK5 ?_)
            refine J.keepE [(2, _)] ⟨rfl, trivial⟩ ?_
            refine J.ret ?_
            refine J.then_r ?_
            exact J.done hw0 (fun _ _ h => h) (res1 rfl rfl) (retOk () (by unfold small; first | (exfalso; omega) | rw [if_pos (by omega)] | rw [if_neg (by omega)]) trivial [0] rfl (by decide))
          ·
            refine J.yg (Wan.is rfl rfl rfl rfl rfl) (op_move rfl rfl) rfl rfl ?_
            refine J.yg (Wan.is rfl rfl rfl rfl rfl) (op_geq rfl rfl rfl) rfl rfl ?_
            refine J.yg (Wan.is rfl rfl rfl rfl rfl) (op_move rfl rfl) rfl rfl ?_
            refine J.split (d := 24) rfl (fun h24 => ?_) (fun h24 => ?_)
            ·
              refine J.yg (Wan.is rfl rfl rfl rfl rfl) (op_move rfl rfl) rfl rfl ?_
              refine J.yg (Wan.is rfl rfl rfl rfl rfl) (op_leq rfl rfl rfl) rfl rfl ?_
              refine J.yg (Wan.is rfl rfl rfl rfl rfl) (op_pickT rfl rfl rfl) rfl rfl ?_
              refine J.y (op_pickF rfl rfl rfl) rfl rfl rfl ?_
              refine J.nil ?_
              refine J.then_n (J.k hK3 ?_)
              refine J.keepE [(0, _), (28, _)] ⟨rfl, rfl, trivial⟩ ?_
              refine J.ite rfl (fun h28 => ?_) (fun h28 => ?_)
              ·
                refine J.seq (fun K6 hK6 => ?_)
                refine J.region ?_
                refine J.y (op_move rfl rfl) rfl rfl rfl ?_
                refine J.y ((op_add rfl rfl rfl (by first | omega | (simp only [List.length_append, List.length_cons, List.length_nil, List.length_take, List.length_drop] at *; omega))).as (v' := I ((r + 32 : Nat) : Int)) (congrArg I (by omega))) rfl rfl rfl ?_
                refine J.y (op_assign rfl rfl) rfl rfl rfl ?_
                refine J.nil ?_
                refine J.then_n (J.k hK6 ?_)
                refine J.keepE [(2, _)] ⟨rfl, trivial⟩ ?_
                refine J.ret ?_
                refine J.then_r ?_
                exact J.done hw0 (fun _ _ h => h) (res1 rfl rfl) (retOk () (by unfold small; first | (exfalso; omega) | rw [if_pos (by omega)] | rw [if_neg (by omega)]) trivial [0] rfl (by decide))
              ·
                refine J.skip ?_
                refine J.then_n (J.k hK2 ?_)
                refine J.keepE [(0, _)] ⟨rfl, trivial⟩ ?_
                refine J.seq (fun K7 hK7 => ?_)
                refine J.region ?_
                refine J.y (op_move rfl rfl) rfl rfl rfl ?_
                refine J.y (op_assign rfl rfl) rfl rfl rfl ?_
                refine J.nil ?_
                refine J.then_n (J.k hK7 ?_)
                refine J.keepE [(2, _)] ⟨rfl, trivial⟩ ?_
                refine J.ret ?_
                exact J.done hw0 (fun _ _ h => h) (res1 rfl rfl) (retOk () (by unfold small; first | (exfalso; omega) | rw [if_pos (by omega)] | rw [if_neg (by omega)]) trivial [0] rfl (by decide))
            ·
              refine J.no (Wan.is rfl rfl rfl rfl rfl) rfl rfl ?_
              refine J.no (Wan.is rfl rfl rfl rfl rfl) rfl rfl ?_
              refine J.yg (Wan.is rfl rfl rfl rfl rfl) (op_pickF rfl rfl rfl) rfl rfl ?_
              refine J.y (op_pickF rfl rfl rfl) rfl rfl rfl ?_
              refine J.nil ?_
              refine J.then_n (J.k hK3 ?_)
              refine J.keepE [(0, _), (28, _)] ⟨rfl, rfl, trivial⟩ ?_
              refine J.condF rfl rfl ?_
              refine J.skip ?_
              refine J.then_n (J.k hK2 ?_)
              refine J.keepE [(0, _)] ⟨rfl, trivial⟩ ?_
              refine J.seq (fun K8 hK8 => ?_)
              refine J.region ?_
              refine J.y (op_move rfl rfl) rfl rfl rfl ?_
              refine J.y (op_assign rfl rfl) rfl rfl rfl ?_
              refine J.nil ?_
              refine J.then_n (J.k hK8 ?_)
              refine J.keepE [(2, _)] ⟨rfl, trivial⟩ ?_
              refine J.ret ?_
              exact J.done hw0 (fun _ _ h => h) (res1 rfl rfl) (retOk () (by unfold small; first | (exfalso; omega) | rw [if_pos (by omega)] | rw [if_neg (by omega)]) trivial [0] rfl (by decide))
        ·
          refine J.no (Wan.is rfl rfl rfl rfl rfl) rfl rfl ?_
          refine J.no (Wan.is rfl rfl rfl rfl rfl) rfl rfl ?_
          refine J.yg (Wan.is rfl rfl rfl rfl rfl) (op_pickF rfl rfl rfl) rfl rfl ?_
          refine J.y (op_pickF rfl rfl rfl) rfl rfl rfl ?_
          refine J.y (op_move rfl rfl) rfl rfl rfl ?_
          refine J.yg (Wan.is rfl rfl rfl rfl rfl) (op_move rfl rfl) rfl rfl ?_
          refine J.yg (Wan.is rfl rfl rfl rfl rfl) (op_geq rfl rfl rfl) rfl rfl ?_
          refine J.yg (Wan.is rfl rfl rfl rfl rfl) (op_move rfl rfl) rfl rfl ?_
          refine J.split (d := 24) rfl (fun h24 => ?_) (fun h24 => ?_)
          ·
            refine J.yg (Wan.is rfl rfl rfl rfl rfl) (op_move rfl rfl) rfl rfl ?_
            refine J.yg (Wan.is rfl rfl rfl rfl rfl) (op_leq rfl rfl rfl) rfl rfl ?_
            refine J.yg (Wan.is rfl rfl rfl rfl rfl) (op_pickT rfl rfl rfl) rfl rfl ?_
            refine J.y (op_pickF rfl rfl rfl) rfl rfl rfl ?_
            refine J.nil ?_
            refine J.then_n (J.k hK3 ?_)
            refine J.keepE [(0, _), (28, _)] ⟨rfl, rfl, trivial⟩ ?_
            refine J.ite rfl (fun h28 => ?_) (fun h28 => ?_)
            ·
              refine J.seq (fun K9 hK9 => ?_)
              refine J.region ?_
              refine J.y (op_move rfl rfl) rfl rfl rfl ?_
              refine J.y ((op_add rfl rfl rfl (by first | omega | (simp only [List.length_append, List.length_cons, List.length_nil, List.length_take, List.length_drop] at *; omega))).as (v' := I ((r + 32 : Nat) : Int)) (congrArg I (by omega))) rfl rfl rfl ?_
              refine J.y (op_assign rfl rfl) rfl rfl rfl ?_
              refine J.nil ?_
              refine J.then_n (J.k hK9 ?_)
              refine J.keepE [(2, _)] ⟨rfl, trivial⟩ ?_
              refine J.ret ?_
              refine J.then_r ?_
              exact J.done hw0 (fun _ _ h => h) (res1 rfl rfl) (retOk () (by unfold small; first | (exfalso; omega) | rw [if_pos (by omega)] | rw [if_neg (by omega)]) trivial [0] rfl (by decide))
            ·
              refine J.skip ?_
              refine J.then_n (J.k hK2 ?_)
              refine J.keepE [(0, _)] ⟨rfl, trivial⟩ ?_
              refine J.seq (fun K10 hK10 => ?_)
              refine J.region ?_
              refine J.y (op_move rfl rfl) rfl rfl rfl ?_
              refine J.y (op_assign rfl rfl) rfl rfl rfl ?_
              refine J.nil ?_
              refine J.then_n (J.k hK10 ?_)
              refine J.keepE [(2, _)] ⟨rfl, trivial⟩ ?_
              refine J.ret ?_
              exact J.done hw0 (fun _ _ h => h) (res1 rfl rfl) (retOk () (by unfold small; first | (exfalso; omega) | rw [if_pos (by omega)] | rw [if_neg (by omega)]) trivial [0] rfl (by decide))
          ·
            refine J.no (Wan.is rfl rfl rfl rfl rfl) rfl rfl ?_
            refine J.no (Wan.is rfl rfl rfl rfl rfl) rfl rfl ?_
            refine J.yg (Wan.is rfl rfl rfl rfl rfl) (op_pickF rfl rfl rfl) rfl rfl ?_
            refine J.y (op_pickF rfl rfl rfl) rfl rfl rfl ?_
            refine J.nil ?_
            refine J.then_n (J.k hK3 ?_)
            refine J.keepE [(0, _), (28, _)] ⟨rfl, rfl, trivial⟩ ?_
            refine J.condF rfl rfl ?_
            refine J.skip ?_
            refine J.then_n (J.k hK2 ?_)
            refine J.keepE [(0, _)] ⟨rfl, trivial⟩ ?_
            refine J.seq (fun K11 hK11 => ?_)
            refine J.region ?_
            refine J.y (op_move rfl rfl) rfl rfl rfl ?_
            refine J.y (op_assign rfl rfl) rfl rfl rfl ?_
            refine J.nil ?_
            refine J.then_n (J.k hK11 ?_)
            refine J.keepE [(2, _)] ⟨rfl, trivial⟩ ?_
            refine J.ret ?_
            exact J.done hw0 (fun _ _ h => h) (res1 rfl rfl) (retOk () (by unfold small; first | (exfalso; omega) | rw [if_pos (by omega)] | rw [if_neg (by omega)]) trivial [0] rfl (by decide))
      ·
        refine J.no (Wan.is rfl rfl rfl rfl rfl) rfl rfl ?_
        refine J.no (Wan.is rfl rfl rfl rfl rfl) rfl rfl ?_
        refine J.yg (Wan.is rfl rfl rfl rfl rfl) (op_pickF rfl rfl rfl) rfl rfl ?_
        refine J.yg (Wan.is rfl rfl rfl rfl rfl) (op_move rfl rfl) rfl rfl ?_
        refine J.no (Wan.is rfl rfl rfl rfl rfl) rfl rfl ?_
        refine J.no (Wan.is rfl rfl rfl rfl rfl) rfl rfl ?_
        refine J.yg (Wan.is rfl rfl rfl rfl rfl) (op_pickF rfl rfl rfl) rfl rfl ?_
        refine J.y (op_pickF rfl rfl rfl) rfl rfl rfl ?_
        refine J.y (op_move rfl rfl) rfl rfl rfl ?_
        refine J.yg (Wan.is rfl rfl rfl rfl rfl) (op_move rfl rfl) rfl rfl ?_
        refine J.yg (Wan.is rfl rfl rfl rfl rfl) (op_geq rfl rfl rfl) rfl rfl ?_
        refine J.yg (Wan.is rfl rfl rfl rfl rfl) (op_move rfl rfl) rfl rfl ?_
        refine J.split (d := 24) rfl (fun h24 => ?_) (fun h24 => ?_)
        ·
          refine J.yg (Wan.is rfl rfl rfl rfl rfl) (op_move rfl rfl) rfl rfl ?_
          refine J.yg (Wan.is rfl rfl rfl rfl rfl) (op_leq rfl rfl rfl) rfl rfl ?_
          refine J.yg (Wan.is rfl rfl rfl rfl rfl) (op_pickT rfl rfl rfl) rfl rfl ?_
          refine J.y (op_pickF rfl rfl rfl) rfl rfl rfl ?_
          refine J.nil ?_
          refine J.then_n (J.k hK3 ?_)
          refine J.keepE [(0, _), (28, _)] ⟨rfl, rfl, trivial⟩ ?_
          refine J.ite rfl (fun h28 => ?_) (fun h28 => ?_)
          ·
            refine J.seq (fun K12 hK12 => ?_)
            refine J.region ?_
            refine J.y (op_move rfl rfl) rfl rfl rfl ?_
            refine J.y ((op_add rfl rfl rfl (by first | omega | (simp only [List.length_append, List.length_cons, List.length_nil, List.length_take, List.length_drop] at *; omega))).as (v' := I ((r + 32 : Nat) : Int)) (congrArg I (by omega))) rfl rfl rfl ?_
            refine J.y (op_assign rfl rfl) rfl rfl rfl ?_
            refine J.nil ?_
            refine J.then_n (J.k hK12 ?_)
            refine J.keepE [(2, _)] ⟨rfl, trivial⟩ ?_
            refine J.ret ?_
            refine J.then_r ?_
            exact J.done hw0 (fun _ _ h => h) (res1 rfl rfl) (retOk () (by unfold small; first | (exfalso; omega) | rw [if_pos (by omega)] | rw [if_neg (by omega)]) trivial [0] rfl (by decide))
          ·
            refine J.skip ?_
            refine J.then_n (J.k hK2 ?_)
            refine J.keepE [(0, _)] ⟨rfl, trivial⟩ ?_
            refine J.seq (fun K13 hK13 => ?_)
            refine J.region ?_
            refine J.y (op_move rfl rfl) rfl rfl rfl ?_
            refine J.y (op_assign rfl rfl) rfl rfl rfl ?_
            refine J.nil ?_
            refine J.then_n (J.k hK13 ?_)
            refine J.keepE [(2, _)] ⟨rfl, trivial⟩ ?_
            refine J.ret ?_
            exact J.done hw0 (fun _ _ h => h) (res1 rfl rfl) (retOk () (by unfold small; first | (exfalso; omega) | rw [if_pos (by omega)] | rw [if_neg (by omega)]) trivial [0] rfl (by decide))
        ·
          refine J.no (Wan.is rfl rfl rfl rfl rfl) rfl rfl ?_
          refine J.no (Wan.is rfl rfl rfl rfl rfl) rfl rfl ?_
          refine J.yg (Wan.is rfl rfl rfl rfl rfl) (op_pickF rfl rfl rfl) rfl rfl ?_
          refine J.y (op_pickF rfl rfl rfl) rfl rfl rfl ?_
          refine J.nil ?_
          refine J.then_n (J.k hK3 ?_)
          refine J.keepE [(0, _), (28, _)] ⟨rfl, rfl, trivial⟩ ?_
          refine J.condF rfl rfl ?_
          refine J.skip ?_
          refine J.then_n (J.k hK2 ?_)
          refine J.keepE [(0, _)] ⟨rfl, trivial⟩ ?_
          refine J.seq (fun K14 hK14 => ?_)
          refine J.region ?_
          refine J.y (op_move rfl rfl) rfl rfl rfl ?_
          refine J.y (op_assign rfl rfl) rfl rfl rfl ?_
          refine J.nil ?_
          refine J.then_n (J.k hK14 ?_)
          refine J.keepE [(2, _)] ⟨rfl, trivial⟩ ?_
          refine J.ret ?_
          exact J.done hw0 (fun _ _ h => h) (res1 rfl rfl) (retOk () (by unfold small; first | (exfalso; omega) | rw [if_pos (by omega)] | rw [if_neg (by omega)]) trivial [0] rfl (by decide))
  ·
    refine J.no (Wan.is rfl rfl rfl rfl rfl) rfl rfl ?_
    refine J.no (Wan.is rfl rfl rfl rfl rfl) rfl rfl ?_
    refine J.y (op_pickF rfl rfl rfl) rfl rfl rfl ?_
    refine J.y (op_move rfl rfl) rfl rfl rfl ?_
    refine J.yg (Wan.is rfl rfl rfl rfl rfl) (op_move rfl rfl) rfl rfl ?_
    refine J.yg (Wan.is rfl rfl rfl rfl rfl) (op_geq rfl rfl rfl) rfl rfl ?_
    refine J.yg (Wan.is rfl rfl rfl rfl rfl) (op_move rfl rfl) rfl rfl ?_
    refine J.split (d := 12) rfl (fun h12 => ?_) (fun h12 => ?_)
    ·
      refine J.yg (Wan.is rfl rfl rfl rfl rfl) (op_move rfl rfl) rfl rfl ?_
      refine J.yg (Wan.is rfl rfl rfl rfl rfl) (op_leq rfl rfl rfl) rfl rfl ?_
      refine J.yg (Wan.is rfl rfl rfl rfl rfl) (op_pickT rfl rfl rfl) rfl rfl ?_
      refine J.yg (Wan.is rfl rfl rfl rfl rfl) (op_move rfl rfl) rfl rfl ?_
      refine J.split (d := 16) rfl (fun h16 => ?_) (fun h16 => ?_)
      ·
        refine J.yg (Wan.is rfl rfl rfl rfl rfl) (op_move rfl rfl) rfl rfl ?_
        refine J.yg (Wan.is rfl rfl rfl rfl rfl) (op_neq rfl rfl rfl) rfl rfl ?_
        refine J.yg (Wan.is rfl rfl rfl rfl rfl) (op_pickT rfl rfl rfl) rfl rfl ?_
        refine J.y (op_pickF rfl rfl rfl) rfl rfl rfl ?_
        refine J.y (op_move rfl rfl) rfl rfl rfl ?_
        refine J.split (d := 21) rfl (fun h21 => ?_) (fun h21 => ?_)
        ·
          refine J.no (Wan.is rfl rfl rfl rfl rfl) rfl rfl ?_
          refine J.no (Wan.is rfl rfl rfl rfl rfl) rfl rfl ?_
          refine J.no (Wan.is rfl rfl rfl rfl rfl) rfl rfl ?_
          refine J.no (Wan.un rfl rfl rfl rfl) rfl rfl ?_
          refine J.no (Wan.un rfl rfl rfl rfl) rfl rfl ?_
          refine J.no (Wan.is rfl rfl rfl rfl rfl) rfl rfl ?_
          refine J.y (op_pickT rfl rfl rfl) rfl rfl rfl ?_
          refine J.nil ?_
          refine J.then_n (J.k hK3 ?_)
          refine J.keepE [(0, _), (28, _)] ⟨rfl, rfl, trivial⟩ ?_
          refine J.condT rfl rfl ?_
          refine J.seq (fun K15 hK15 => ?_)
          refine J.region ?_
          refine J.y (op_move rfl rfl) rfl rfl rfl ?_
          refine J.y ((op_add rfl rfl rfl (by first | omega | (simp only [List.length_append, List.length_cons, List.length_nil, List.length_take, List.length_drop] at *; omega))).as (v' := I ((r + 32 : Nat) : Int)) (congrArg I (by omega))) rfl rfl rfl ?_
          refine J.y (op_assign rfl rfl) rfl rfl rfl ?_
          refine J.nil ?_
          refine J.then_n (J.k hK15 ?_)
          refine J.keepE [(2, _)] ⟨rfl, trivial⟩ ?_
          refine J.ret ?_
          refine J.then_r ?_
          exact J.done hw0 (fun _ _ h => h) (res1 rfl rfl) (retOk () (by unfold small; first | (exfalso; omega) | rw [if_pos (by omega)] | rw [if_neg (by omega)]) trivial [0] rfl (by decide))
        ·
          refine J.yg (Wan.is rfl rfl rfl rfl rfl) (op_move rfl rfl) rfl rfl ?_
          refine J.yg (Wan.is rfl rfl rfl rfl rfl) (op_geq rfl rfl rfl) rfl rfl ?_
          refine J.yg (Wan.is rfl rfl rfl rfl rfl) (op_move rfl rfl) rfl rfl ?_
          refine J.split (d := 24) rfl (fun h24 => ?_) (fun h24 => ?_)
          ·
            refine J.yg (Wan.is rfl rfl rfl rfl rfl) (op_move rfl rfl) rfl rfl ?_
            refine J.yg (Wan.is rfl rfl rfl rfl rfl) (op_leq rfl rfl rfl) rfl rfl ?_
            refine J.yg (Wan.is rfl rfl rfl rfl rfl) (op_pickT rfl rfl rfl) rfl rfl ?_
            refine J.y (op_pickF rfl rfl rfl) rfl rfl rfl ?_
            refine J.nil ?_
            refine J.then_n (J.k hK3 ?_)
            refine J.keepE [(0, _), (28, _)] ⟨rfl, rfl, trivial⟩ ?_
            refine J.ite rfl (fun h28 => ?_) (fun h28 => ?_)
            ·
              refine J.seq (fun K16 hK16 => ?_)
              refine J.region ?_
              refine J.y (op_move rfl rfl) rfl rfl rfl ?_
              refine J.y ((op_add rfl rfl rfl (by first | omega | (simp only [List.length_append, List.length_cons, List.length_nil, List.length_take, List.length_drop] at *; omega))).as (v' := I ((r + 32 : Nat) : Int)) (congrArg I (by omega))) rfl rfl rfl ?_
              refine J.y (op_assign rfl rfl) rfl rfl rfl ?_
              refine J.nil ?_
              refine J.then_n (J.k hK16 ?_)
              refine J.keepE [(2, _)] ⟨rfl, trivial⟩ ?_
              refine J.ret ?_
              refine J.then_r ?_
              exact J.done hw0 (fun _ _ h => h) (res1 rfl rfl) (retOk () (by unfold small; first | (exfalso; omega) | rw [if_pos (by omega)] | rw [if_neg (by omega)]) trivial [0] rfl (by decide))
            ·
              refine J.skip ?_
              refine J.then_n (J.k hK2 ?_)
              refine J.keepE [(0, _)] ⟨rfl, trivial⟩ ?_
              refine J.seq (fun K17 hK17 => ?_)
              refine J.region ?_
              refine J.y (op_move rfl rfl) rfl rfl rfl ?_
              refine J.y (op_assign rfl rfl) rfl rfl rfl ?_
              refine J.nil ?_
              refine J.then_n (J.k hK17 ?_)
              refine J.keepE [(2, _)] ⟨rfl, trivial⟩ ?_
              refine J.ret ?_
              exact J.done hw0 (fun _ _ h => h) (res1 rfl rfl) (retOk () (by unfold small; first | (exfalso; omega) | rw [if_pos (by omega)] | rw [if_neg (by omega)]) trivial [0] rfl (by decide))
          ·
            refine J.no (Wan.is rfl rfl rfl rfl rfl) rfl rfl ?_
            refine J.no (Wan.is rfl rfl rfl rfl rfl) rfl rfl ?_
            refine J.yg (Wan.is rfl rfl rfl rfl rfl) (op_pickF rfl rfl rfl) rfl rfl ?_
            refine J.y (op_pickF rfl rfl rfl) rfl rfl rfl ?_
            refine J.nil ?_
            refine J.then_n (J.k hK3 ?_)
            refine J.keepE [(0, _), (28, _)] ⟨rfl, rfl, trivial⟩ ?_
            refine J.condF rfl rfl ?_
            refine J.skip ?_
            refine J.then_n (J.k hK2 ?_)
            refine J.keepE [(0, _)] ⟨rfl, trivial⟩ ?_
            refine J.seq (fun K18 hK18 => ?_)
            refine J.region ?_
            refine J.y (op_move rfl rfl) rfl rfl rfl ?_
            refine J.y (op_assign rfl rfl) rfl rfl rfl ?_
            refine J.nil ?_
            refine J.then_n (J.k hK18 ?_)
            refine J.keepE [(2, _)] ⟨rfl, trivial⟩ ?_
            refine J.ret ?_
            exact J.done hw0 (fun _ _ h => h) (res1 rfl rfl) (retOk () (by unfold small; first | (exfalso; omega) | rw [if_pos (by omega)] | rw [if_neg (by omega)]) trivial [0] rfl (by decide))
      ·
        refine J.no (Wan.is rfl rfl rfl rfl rfl) rfl rfl ?_
        refine J.no (Wan.is rfl rfl rfl rfl rfl) rfl rfl ?_
        refine J.yg (Wan.is rfl rfl rfl rfl rfl) (op_pickF rfl rfl rfl) rfl rfl ?_
        refine J.y (op_pickF rfl rfl rfl) rfl rfl rfl ?_
        refine J.y (op_move rfl rfl) rfl rfl rfl ?_
        refine J.yg (Wan.is rfl rfl rfl rfl rfl) (op_move rfl rfl) rfl rfl ?_
        refine J.yg (Wan.is rfl rfl rfl rfl rfl) (op_geq rfl rfl rfl) rfl rfl ?_
        refine J.yg (Wan.is rfl rfl rfl rfl rfl) (op_move rfl rfl) rfl rfl ?_
        refine J.split (d := 24) rfl (fun h24 => ?_) (fun h24 => ?_)
        ·
          refine J.yg (Wan.is rfl rfl rfl rfl rfl) (op_move rfl rfl) rfl rfl ?_
          refine J.yg (Wan.is rfl rfl rfl rfl rfl) (op_leq rfl rfl rfl) rfl rfl ?_
          refine J.yg (Wan.is rfl rfl rfl rfl rfl) (op_pickT rfl rfl rfl) rfl rfl ?_
          refine J.y (op_pickF rfl rfl rfl) rfl rfl rfl ?_
          refine J.nil ?_
          refine J.then_n (J.k hK3 ?_)
          refine J.keepE [(0, _), (28, _)] ⟨rfl, rfl, trivial⟩ ?_
          refine J.ite rfl (fun h28 => ?_) (fun h28 => ?_)
          ·
            refine J.seq (fun K19 hK19 => ?_)
            refine J.region ?_
            refine J.y (op_move rfl rfl) rfl rfl rfl ?_
            refine J.y ((op_add rfl rfl rfl (by first | omega | (simp only [List.length_append, List.length_cons, List.length_nil, List.length_take, List.length_drop] at *; omega))).as (v' := I ((r + 32 : Nat) : Int)) (congrArg I (by omega))) rfl rfl rfl ?_
            refine J.y (op_assign rfl rfl) rfl rfl rfl ?_
            refine J.nil ?_
            refine J.then_n (J.k hK19 ?_)
            refine J.keepE [(2, _)] ⟨rfl, trivial⟩ ?_
            refine J.ret ?_
            refine J.then_r ?_
            exact J.done hw0 (fun _ _ h => h) (res1 rfl rfl) (retOk () (by unfold small; first | (exfalso; omega) | rw [if_pos (by omega)] | rw [if_neg (by omega)]) trivial [0] rfl (by decide))
          ·
            refine J.skip ?_
            refine J.then_n (J.k hK2 ?_)
            refine J.keepE [(0, _)] ⟨rfl, trivial⟩ ?_
            refine J.seq (fun K20 hK20 => ?_)
            refine J.region ?_
            refine J.y (op_move rfl rfl) rfl rfl rfl ?_
            refine J.y (op_assign rfl rfl) rfl rfl rfl ?_
            refine J.nil ?_
            refine J.then_n (J.k hK20 ?_)
            refine J.keepE [(2, _)] ⟨rfl, trivial⟩ ?_
            refine J.ret ?_
            exact J.done hw0 (fun _ _ h => h) (res1 rfl rfl) (retOk () (by unfold small; first | (exfalso; omega) | rw [if_pos (by omega)] | rw [if_neg (by omega)]) trivial [0] rfl (by decide))
        ·
          refine J.no (Wan.is rfl rfl rfl rfl rfl) rfl rfl ?_
          refine J.no (Wan.is rfl rfl rfl rfl rfl) rfl rfl ?_
          refine J.yg (Wan.is rfl rfl rfl rfl rfl) (op_pickF rfl rfl rfl) rfl rfl ?_
          refine J.y (op_pickF rfl rfl rfl) rfl rfl rfl ?_
          refine J.nil ?_
          refine J.then_n (J.k hK3 ?_)
          refine J.keepE [(0, _), (28, _)] ⟨rfl, rfl, trivial⟩ ?_
          refine J.condF rfl rfl ?_
          refine J.skip ?_
          refine J.then_n (J.k hK2 ?_)
          refine J.keepE [(0, _)] ⟨rfl, trivial⟩ ?_
          refine J.seq (fun K21 hK21 => ?_)
          refine J.region ?_
          refine J.y (op_move rfl rfl) rfl rfl rfl ?_
          refine J.y (op_assign rfl rfl) rfl rfl rfl ?_
          refine J.nil ?_
          refine J.then_n (J.k hK21 ?_)
          refine J.keepE [(2, _)] ⟨rfl, trivial⟩ ?_
          refine J.ret ?_
          exact J.done hw0 (fun _ _ h => h) (res1 rfl rfl) (retOk () (by unfold small; first | (exfalso; omega) | rw [if_pos (by omega)] | rw [if_neg (by omega)]) trivial [0] rfl (by decide))
    ·
      refine J.no (Wan.is rfl rfl rfl rfl rfl) rfl rfl ?_
      refine J.no (Wan.is rfl rfl rfl rfl rfl) rfl rfl ?_
      refine J.yg (Wan.is rfl rfl rfl rfl rfl) (op_pickF rfl rfl rfl) rfl rfl ?_
      refine J.yg (Wan.is rfl rfl rfl rfl rfl) (op_move rfl rfl) rfl rfl ?_
      refine J.no (Wan.is rfl rfl rfl rfl rfl) rfl rfl ?_
      refine J.no (Wan.is rfl rfl rfl rfl rfl) rfl rfl ?_
      refine J.yg (Wan.is rfl rfl rfl rfl rfl) (op_pickF rfl rfl rfl) rfl rfl ?_
      refine J.y (op_pickF rfl rfl rfl) rfl rfl rfl ?_
      refine J.y (op_move rfl rfl) rfl rfl rfl ?_
      refine J.yg (Wan.is rfl rfl rfl rfl rfl) (op_move rfl rfl) rfl rfl ?_
      refine J.yg (Wan.is rfl rfl rfl rfl rfl) (op_geq rfl rfl rfl) rfl rfl ?_
      refine J.yg (Wan.is rfl rfl rfl rfl rfl) (op_move rfl rfl) rfl rfl ?_
      refine J.split (d := 24) rfl (fun h24 => ?_) (fun h24 => ?_)
      ·
        refine J.yg (Wan.is rfl rfl rfl rfl rfl) (op_move rfl rfl) rfl rfl ?_
        refine J.yg (Wan.is rfl rfl rfl rfl rfl) (op_leq rfl rfl rfl) rfl rfl ?_
        refine J.yg (Wan.is rfl rfl rfl rfl rfl) (op_pickT rfl rfl rfl) rfl rfl ?_
        refine J.y (op_pickF rfl rfl rfl) rfl rfl rfl ?_
        refine J.nil ?_
        refine J.then_n (J.k hK3 ?_)
        refine J.keepE [(0, _), (28, _)] ⟨rfl, rfl, trivial⟩ ?_
        refine J.ite rfl (fun h28 => ?_) (fun h28 => ?_)
        ·
          refine J.seq (fun K22 hK22 => ?_)
          refine J.region ?_
          refine J.y (op_move rfl rfl) rfl rfl rfl ?_
          refine J.y ((op_add rfl rfl rfl (by first | omega | (simp only [List.length_append, List.length_cons, List.length_nil, List.length_take, List.length_drop] at *; omega))).as (v' := I ((r + 32 : Nat) : Int)) (congrArg I (by omega))) rfl rfl rfl ?_
          refine J.y (op_assign rfl rfl) rfl rfl rfl ?_
          refine J.nil ?_
          refine J.then_n (J.k hK22 ?_)
          refine J.keepE [(2, _)] ⟨rfl, trivial⟩ ?_
          refine J.ret ?_
          refine J.then_r ?_
          exact J.done hw0 (fun _ _ h => h) (res1 rfl rfl) (retOk () (by unfold small; first | (exfalso; omega) | rw [if_pos (by omega)] | rw [if_neg (by omega)]) trivial [0] rfl (by decide))
        ·
          refine J.skip ?_
          refine J.then_n (J.k hK2 ?_)
          refine J.keepE [(0, _)] ⟨rfl, trivial⟩ ?_
          refine J.seq (fun K23 hK23 => ?_)
          refine J.region ?_
          refine J.y (op_move rfl rfl) rfl rfl rfl ?_
          refine J.y (op_assign rfl rfl) rfl rfl rfl ?_
          refine J.nil ?_
          refine J.then_n (J.k hK23 ?_)
          refine J.keepE [(2, _)] ⟨rfl, trivial⟩ ?_
          refine J.ret ?_
          exact J.done hw0 (fun _ _ h => h) (res1 rfl rfl) (retOk () (by unfold small; first | (exfalso; omega) | rw [if_pos (by omega)] | rw [if_neg (by omega)]) trivial [0] rfl (by decide))
      ·
        refine J.no (Wan.is rfl rfl rfl rfl rfl) rfl rfl ?_
        refine J.no (Wan.is rfl rfl rfl rfl rfl) rfl rfl ?_
        refine J.yg (Wan.is rfl rfl rfl rfl rfl) (op_pickF rfl rfl rfl) rfl rfl ?_
        refine J.y (op_pickF rfl rfl rfl) rfl rfl rfl ?_
        refine J.nil ?_
        refine J.then_n (J.k hK3 ?_)
        refine J.keepE [(0, _), (28, _)] ⟨rfl, rfl, trivial⟩ ?_
        refine J.condF rfl rfl ?_
        refine J.skip ?_
        refine J.then_n (J.k hK2 ?_)
        refine J.keepE [(0, _)] ⟨rfl, trivial⟩ ?_
        refine J.seq (fun K24 hK24 => ?_)
        refine J.region ?_
        refine J.y (op_move rfl rfl) rfl rfl rfl ?_
        refine J.y (op_assign rfl rfl) rfl rfl rfl ?_
        refine J.nil ?_
        refine J.then_n (J.k hK24 ?_)
        refine J.keepE [(2, _)] ⟨rfl, trivial⟩ ?_
        refine J.ret ?_
        exact J.done hw0 (fun _ _ h => h) (res1 rfl rfl) (retOk () (by unfold small; first | (exfalso; omega) | rw [if_pos (by omega)] | rw [if_neg (by omega)]) trivial [0] rfl (by decide))

theorem letterr_ct (F : Hp) (r : Nat) (hr : r ≤ 1073741824) : Ct Tryd.prog 22 [I ((r : Nat) : Int)] [F] (fun _ : Unit => I ((lett r : Nat) : Int)) (fun _ => True) (fun _ => [F]) := by
  refine Ct.walk Tryd.func22 rfl Tryd.ntmps22 rfl (fun w0 hw0 => ?_)
  change J _ [(0, _)] _ _ _
  refine J.seq (fun K1 hK1 => ?_)
  refine J.region ?_
  refine J.y (op_assign rfl rfl) rfl rfl rfl ?_
  refine J.nil ?_
  refine J.then_n (J.k hK1 ?_)
  refine J.keepE [(0, _)] ⟨rfl, trivial⟩ ?_
  refine J.seq (fun K2 hK2 => ?_)
  refine J.region ?_
  refine J.y (op_move rfl rfl) rfl rfl rfl ?_
  refine J.e (op_call rfl rfl ent19 (Ct.use0 (fun F' hF => smallr_ct F' r (by omega)))) rfl rfl rfl ?_
  intro g4 _
  refine J.y (op_assign rfl rfl) rfl rfl rfl ?_
  refine J.nil ?_
  refine J.then_n (J.k hK2 ?_)
  refine J.keepE [(0, _)] ⟨rfl, trivial⟩ ?_
  refine J.seq (fun K3 hK3 => ?_)
  refine J.seq (fun K4 hK4 => ?_)
  refine J.region ?_
  refine J.y (op_move rfl rfl) rfl rfl rfl ?_
  refine J.y (op_geq rfl rfl rfl) rfl rfl rfl ?_
  refine J.y (op_move rfl rfl) rfl rfl rfl ?_
  refine J.split (d := 7) rfl (fun h7 => ?_) (fun h7 => ?_)
  ·
    refine J.yg (Wan.is rfl rfl rfl rfl rfl) (op_move rfl rfl) rfl rfl ?_
    refine J.yg (Wan.is rfl rfl rfl rfl rfl) (op_leq rfl rfl rfl) rfl rfl ?_
    refine J.y (op_pickT rfl rfl rfl) rfl rfl rfl ?_
    refine J.nil ?_
    refine J.then_n (J.k hK4 ?_)
    refine J.keepE [(0, _), (10, _)] ⟨rfl, rfl, trivial⟩ ?_
    refine J.ite rfl (fun h10 => ?_) (fun h10 => ?_)
    ·
      refine J.seq (fun K5 hK5 => ?_)
      refine J.region ?_
      refine J.y (op_assign rfl rfl) rfl rfl rfl ?_
      refine J.nil ?_
      refine J.then_n (J.k hK5 ?_)
      refine J.keepE [(2, _)] ⟨rfl, trivial⟩ ?_
      refine J.ret ?_
      refine J.then_r ?_
      exact J.done hw0 (fun _ _ h => h) (res1 rfl rfl) (retOk () (by unfold lett; first | (exfalso; omega) | (rw [if_pos (by omega)]; rfl) | (rw [if_neg (by omega), if_pos (by omega)]; rfl) | (rw [if_neg (by omega), if_neg (by omega), if_pos (by omega)]; rfl) | (rw [if_neg (by omega), if_neg (by omega), if_neg (by omega)]; rfl)) trivial [0] rfl (by decide))
    ·
      refine J.skip ?_
      refine J.then_n (J.k hK3 ?_)
      refine J.keepE [(0, _)] ⟨rfl, trivial⟩ ?_
      refine J.seq (fun K6 hK6 => ?_)
      refine J.seq (fun K7 hK7 => ?_)
      refine J.region ?_
      refine J.y (op_move rfl rfl) rfl rfl rfl ?_
      refine J.y (op_geq rfl rfl rfl) rfl rfl rfl ?_
      refine J.y (op_move rfl rfl) rfl rfl rfl ?_
      refine J.split (d := 13) rfl (fun h13 => ?_) (fun h13 => ?_)
      ·
        refine J.yg (Wan.is rfl rfl rfl rfl rfl) (op_move rfl rfl) rfl rfl ?_
        refine J.yg (Wan.is rfl rfl rfl rfl rfl) (op_leq rfl rfl rfl) rfl rfl ?_
        refine J.y (op_pickT rfl rfl rfl) rfl rfl rfl ?_
        refine J.nil ?_
        refine J.then_n (J.k hK7 ?_)
        refine J.keepE [(0, _), (16, _)] ⟨rfl, rfl, trivial⟩ ?_
        refine J.ite rfl (fun h16 => ?_) (fun h16 => ?_)
        ·
          refine J.seq (fun K8 hK8 => ?_)
          refine J.region ?_
          refine J.y (op_assign rfl rfl) rfl rfl rfl ?_
          refine J.nil ?_
          refine J.then_n (J.k hK8 ?_)
          refine J.keepE [(2, _)] ⟨rfl, trivial⟩ ?_
          refine J.ret ?_
          refine J.then_r ?_
          exact J.done hw0 (fun _ _ h => h) (res1 rfl rfl) (retOk () (by unfold lett; first | (exfalso; omega) | (rw [if_pos (by omega)]; rfl) | (rw [if_neg (by omega), if_pos (by omega)]; rfl) | (rw [if_neg (by omega), if_neg (by omega), if_pos (by omega)]; rfl) | (rw [if_neg (by omega), if_neg (by omega), if_neg (by omega)]; rfl)) trivial [0] rfl (by decide))
        ·
          refine J.skip ?_
          refine J.then_n (J.k hK6 ?_)
          refine J.keepE [(0, _)] ⟨rfl, trivial⟩ ?_
          refine J.seq (fun K9 hK9 => ?_)
          refine J.seq (fun K10 hK10 => ?_)
          refine J.region ?_
          refine J.y (op_move rfl rfl) rfl rfl rfl ?_
          refine J.y (op_geq rfl rfl rfl) rfl rfl rfl ?_
          refine J.y (op_move rfl rfl) rfl rfl rfl ?_
          refine J.split (d := 19) rfl (fun h19 => ?_) (fun h19 => ?_)
          ·
            refine J.yg (Wan.is rfl rfl rfl rfl rfl) (op_move rfl rfl) rfl rfl ?_
            refine J.yg (Wan.is rfl rfl rfl rfl rfl) (op_leq rfl rfl rfl) rfl rfl ?_
            refine J.y (op_pickT rfl rfl rfl) rfl rfl rfl ?_
            refine J.nil ?_
            refine J.then_n (J.k hK10 ?_)
            refine J.keepE [(22, _)] ⟨rfl, trivial⟩ ?_
            refine J.ite rfl (fun h22 => ?_) (fun h22 => ?_)
            ·
              refine J.seq (fun K11 hK11 => ?_)
              refine J.region ?_
              refine J.y (op_assign rfl rfl) rfl rfl rfl ?_
              refine J.nil ?_
              refine J.then_n (J.k hK11 ?_)
              refine J.keepE [(2, _)] ⟨rfl, trivial⟩ ?_
              refine J.ret ?_
              refine J.then_r ?_
              exact J.done hw0 (fun _ _ h => h) (res1 rfl rfl) (retOk () (by unfold lett; first | (exfalso; omega) | (rw [if_pos (by omega)]; rfl) | (rw [if_neg (by omega), if_pos (by omega)]; rfl) | (rw [if_neg (by omega), if_neg (by omega), if_pos (by omega)]; rfl) | (rw [if_neg (by omega), if_neg (by omega), if_neg (by omega)]; rfl)) trivial [0] rfl (by decide))
            ·
              refine J.skip ?_
              refine J.then_n (J.k hK9 ?_)
              refine J.keepE [] trivial ?_
              refine J.seq (fun K12 hK12 => ?_)
              refine J.region ?_
              refine J.y (op_assign rfl rfl) rfl rfl rfl ?_
              refine J.nil ?_
              refine J.then_n (J.k hK12 ?_)
              refine J.keepE [(2, _)] ⟨rfl, trivial⟩ ?_
              refine J.ret ?_
              exact J.done hw0 (fun _ _ h => h) (res1 rfl rfl) (retOk () (by unfold lett; first | (exfalso; omega) | (rw [if_pos (by omega)]; rfl) | (rw [if_neg (by omega), if_pos (by omega)]; rfl) | (rw [if_neg (by omega), if_neg (by omega), if_pos (by omega)]; rfl) | (rw [if_neg (by omega), if_neg (by omega), if_neg (by omega)]; rfl)) trivial [0] rfl (by decide))
          ·
            refine J.no (Wan.is rfl rfl rfl rfl rfl) rfl rfl ?_
            refine J.no (Wan.is rfl rfl rfl rfl rfl) rfl rfl ?_
            refine J.y (op_pickF rfl rfl rfl) rfl rfl rfl ?_
            refine J.nil ?_
            refine J.then_n (J.k hK10 ?_)
            refine J.keepE [(22, _)] ⟨rfl, trivial⟩ ?_
            refine J.condF rfl rfl ?_
            refine J.skip ?_
            refine J.then_n (J.k hK9 ?_)
            refine J.keepE [] trivial ?_
            refine J.seq (fun K13 hK13 => ?_)
            refine J.region ?_
            refine J.y (op_assign rfl rfl) rfl rfl rfl ?_
            refine J.nil ?_
            refine J.then_n (J.k hK13 ?_)
            refine J.keepE [(2, _)] ⟨rfl, trivial⟩ ?_
            refine J.ret ?_
            exact J.done hw0 (fun _ _ h => h) (res1 rfl rfl) (retOk () (by unfold lett; first | (exfalso; omega) | (rw [if_pos (by omega)]; rfl) | (rw [if_neg (by omega), if_pos (by omega)]; rfl) | (rw [if_neg (by omega), if_neg (by omega), if_pos (by omega)]; rfl) | (rw [if_neg (by omega), if_neg (by omega), if_neg (by omega)]; rfl)) trivial [0] rfl (by decide))
      ·
        refine J.no (Wan.is rfl rfl rfl rfl rfl) rfl rfl ?_
        refine J.no (Wan.is rfl rfl rfl rfl rfl) rfl rfl ?_
        refine J.y (op_pickF rfl rfl rfl) rfl rfl rfl ?_
        refine J.nil ?_
        refine J.then_n (J.k hK7 ?_)
        refine J.keepE [(0, _), (16, _)] ⟨rfl, rfl, trivial⟩ ?_
        refine J.condF rfl rfl ?_
        refine J.skip ?_
        refine J.then_n (J.k hK6 ?_)
        refine J.keepE [(0, _)] ⟨rfl, trivial⟩ ?_
        refine J.seq (fun K14 hK14 => ?_)
        refine J.seq (fun K15 hK15 => ?_)
        refine J.region ?_
        refine J.y (op_move rfl rfl) rfl rfl rfl ?_
        refine J.y (op_geq rfl rfl rfl) rfl rfl rfl ?_
        refine J.y (op_move rfl rfl) rfl rfl rfl ?_
        refine J.split (d := 19) rfl (fun h19 => ?_) (fun h19 => ?_)
        ·
          refine J.yg (Wan.is rfl rfl rfl rfl rfl) (op_move rfl rfl) rfl rfl ?_
          refine J.yg (Wan.is rfl rfl rfl rfl rfl) (op_leq rfl rfl rfl) rfl rfl ?_
          refine J.y (op_pickT rfl rfl rfl) rfl rfl rfl ?_
          refine J.nil ?_
          refine J.then_n (J.k hK15 ?_)
          refine J.keepE [(22, _)] ⟨rfl, trivial⟩ ?_
          refine J.ite rfl (fun h22 => ?_) (fun h22 => ?_)
          ·
            refine J.seq (fun K16 hK16 => ?_)
            refine J.region ?_
            refine J.y (op_assign rfl rfl) rfl rfl rfl ?_
            refine J.nil ?_
            refine J.then_n (J.k hK16 ?_)
            refine J.keepE [(2, _)] ⟨rfl, trivial⟩ ?_
            refine J.ret ?_
            refine J.then_r ?_
            exact J.done hw0 (fun _ _ h => h) (res1 rfl rfl) (retOk () (by unfold lett; first | (exfalso; omega) | (rw [if_pos (by omega)]; rfl) | (rw [if_neg (by omega), if_pos (by omega)]; rfl) | (rw [if_neg (by omega), if_neg (by omega), if_pos (by omega)]; rfl) | (rw [if_neg (by omega), if_neg (by omega), if_neg (by omega)]; rfl)) trivial [0] rfl (by decide))
          ·
            refine J.skip ?_
            refine J.then_n (J.k hK14 ?_)
            refine J.keepE [] trivial ?_
            refine J.seq (fun K17 hK17 => ?_)
            refine J.region ?_
            refine J.y (op_assign rfl rfl) rfl rfl rfl ?_
            refine J.nil ?_
            refine J.then_n (J.k hK17 ?_)
            refine J.keepE [(2, _)] ⟨rfl, trivial⟩ ?_
            refine J.ret ?_
            exact J.done hw0 (fun _ _ h => h) (res1 rfl rfl) (retOk () (by unfold lett; first | (exfalso; omega) | (rw [if_pos (by omega)]; rfl) | (rw [if_neg (by omega), if_pos (by omega)]; rfl) | (rw [if_neg (by omega), if_neg (by omega), if_pos (by omega)]; rfl) | (rw [if_neg (by omega), if_neg (by omega), if_neg (by omega)]; rfl)) trivial [0] rfl (by decide))
        ·
          refine J.no (Wan.is rfl rfl rfl rfl rfl) rfl rfl ?_
          refine J.no (Wan.is rfl rfl rfl rfl rfl) rfl rfl ?_
          refine J.y (op_pickF rfl rfl rfl) rfl rfl rfl ?_
          refine J.nil ?_
          refine J.then_n (J.k hK15 ?_)
          refine J.keepE [(22, _)] ⟨rfl, trivial⟩ ?_
          refine J.condF rfl rfl ?_
          refine J.skip ?_
          refine J.then_n (J.k hK14 ?_)
          refine J.keepE [] trivial ?_
          refine J.seq (fun K18 hK18 => ?_)
          refine J.region ?_
          refine J.y (op_assign rfl rfl) rfl rfl rfl ?_
          refine J.nil ?_
          refine J.then_n (J.k hK18 ?_)
          refine J.keepE [(2, _)] ⟨rfl, trivial⟩ ?_
          refine J.ret ?_
          exact J.done hw0 (fun _ _ h => h) (res1 rfl rfl) (retOk () (by unfold lett; first | (exfalso; omega) | (rw [if_pos (by omega)]; rfl) | (rw [if_neg (by omega), if_pos (by omega)]; rfl) | (rw [if_neg (by omega), if_neg (by omega), if_pos (by omega)]; rfl) | (rw [if_neg (by omega), if_neg (by omega), if_neg (by omega)]; rfl)) trivial [0] rfl (by decide))
  ·
    refine J.no (Wan.is rfl rfl rfl rfl rfl) rfl rfl ?_
    refine J.no (Wan.is rfl rfl rfl rfl rfl) rfl rfl ?_
    refine J.y (op_pickF rfl rfl rfl) rfl rfl rfl ?_
    refine J.nil ?_
    refine J.then_n (J.k hK4 ?_)
    refine J.keepE [(0, _), (10, _)] ⟨rfl, rfl, trivial⟩ ?_
    refine J.condF rfl rfl ?_
    refine J.skip ?_
    refine J.then_n (J.k hK3 ?_)
    refine J.keepE [(0, _)] ⟨rfl, trivial⟩ ?_
    refine J.seq (fun K19 hK19 => ?_)
    refine J.seq (fun K20 hK20 => ?_)
    refine J.region ?_
    refine J.y (op_move rfl rfl) rfl rfl rfl ?_
    refine J.y (op_geq rfl rfl rfl) rfl rfl rfl ?_
    refine J.y (op_move rfl rfl) rfl rfl rfl ?_
    refine J.split (d := 13) rfl (fun h13 => ?_) (fun h13 => ?_)
    ·
      refine J.yg (Wan.is rfl rfl rfl rfl rfl) (op_move rfl rfl) rfl rfl ?_
      refine J.yg (Wan.is rfl rfl rfl rfl rfl) (op_leq rfl rfl rfl) rfl rfl ?_
      refine J.y (op_pickT rfl rfl rfl) rfl rfl rfl ?_
      refine J.nil ?_
      refine J.then_n (J.k hK20 ?_)
      refine J.keepE [(0, _), (16, _)] ⟨rfl, rfl, trivial⟩ ?_
      refine J.ite rfl (fun h16 => ?_) (fun h16 => ?_)
      ·
        refine J.seq (fun K21 hK21 => ?_)
        refine J.region ?_
        refine J.y (op_assign rfl rfl) rfl rfl rfl ?_
        refine J.nil ?_
        refine J.then_n (J.k hK21 ?_)
        refine J.keepE [(2, _)] ⟨rfl, trivial⟩ ?_
        refine J.ret ?_
        refine J.then_r ?_
        exact J.done hw0 (fun _ _ h => h) (res1 rfl rfl) (retOk () (by unfold lett; first | (exfalso; omega) | (rw [if_pos (by omega)]; rfl) | (rw [if_neg (by omega), if_pos (by omega)]; rfl) | (rw [if_neg (by omega), if_neg (by omega), if_pos (by omega)]; rfl) | (rw [if_neg (by omega), if_neg (by omega), if_neg (by omega)]; rfl)) trivial [0] rfl (by decide))
      ·
        refine J.skip ?_
        refine J.then_n (J.k hK19 ?_)
        refine J.keepE [(0, _)] ⟨rfl, trivial⟩ ?_
        refine J.seq (fun K22 hK22 => ?_)
        refine J.seq (fun K23 hK23 => ?_)
        refine J.region ?_
        refine J.y (op_move rfl rfl) rfl rfl rfl ?_
        refine J.y (op_geq rfl rfl rfl) rfl rfl rfl ?_
        refine J.y (op_move rfl rfl) rfl rfl rfl ?_
        refine J.split (d := 19) rfl (fun h19 => ?_) (fun h19 => ?_)
        ·
          refine J.yg (Wan.is rfl rfl rfl rfl rfl) (op_move rfl rfl) rfl rfl ?_
          refine J.yg (Wan.is rfl rfl rfl rfl rfl) (op_leq rfl rfl rfl) rfl rfl ?_
          refine J.y (op_pickT rfl rfl rfl) rfl rfl rfl ?_
          refine J.nil ?_
          refine J.then_n (J.k hK23 ?_)
          refine J.keepE [(22, _)] ⟨rfl, trivial⟩ ?_
          refine J.ite rfl (fun h22 => ?_) (fun h22 => ?_)
          ·
            refine J.seq (fun K24 hK24 => ?_)
            refine J.region ?_
            refine J.y (op_assign rfl rfl) rfl rfl rfl ?_
            refine J.nil ?_
            refine J.then_n (J.k hK24 ?_)
            refine J.keepE [(2, _)] ⟨rfl, trivial⟩ ?_
            refine J.ret ?_
            refine J.then_r ?_
            exact J.done hw0 (fun _ _ h => h) (res1 rfl rfl) (retOk () (by unfold lett; first | (exfalso; omega) | (rw [if_pos (by omega)]; rfl) | (rw [if_neg (by omega), if_pos (by omega)]; rfl) | (rw [if_neg (by omega), if_neg (by omega), if_pos (by omega)]; rfl) | (rw [if_neg (by omega), if_neg (by omega), if_neg (by omega)]; rfl)) trivial [0] rfl (by decide))
          ·
            refine J.skip ?_
            refine J.then_n (J.k hK22 ?_)
            refine J.keepE [] trivial ?_
            refine J.seq (fun K25 hK25 => ?_)
            refine J.region ?_
            refine J.y (op_assign rfl rfl) rfl rfl rfl ?_
            refine J.nil ?_
            refine J.then_n (J.k hK25 ?_)
            refine J.keepE [(2, _)] ⟨rfl, trivial⟩ ?_
            refine J.ret ?_
            exact J.done hw0 (fun _ _ h => h) (res1 rfl rfl) (retOk () (by unfold lett; first | (exfalso; omega) | (rw [if_pos (by omega)]; rfl) | (rw [if_neg (by omega), if_pos (by omega)]; rfl) | (rw [if_neg (by omega), if_neg (by omega), if_pos (by omega)]; rfl) | (rw [if_neg (by omega), if_neg (by omega), if_neg (by omega)]; rfl)) trivial [0] rfl (by decide))
        ·
          refine J.no (Wan.is rfl rfl rfl rfl rfl) rfl rfl ?_
          refine J.no (Wan.is rfl rfl rfl rfl rfl) rfl rfl ?_
          refine J.y (op_pickF rfl rfl rfl) rfl rfl rfl ?_
          refine J.nil ?_
          refine J.then_n (J.k hK23 ?_)
          refine J.keepE [(22, _)] ⟨rfl, trivial⟩ ?_
          refine J.condF rfl rfl ?_
          refine J.skip ?_
          refine J.then_n (J.k hK22 ?_)
          refine J.keepE [] trivial ?_
          refine J.seq (fun K26 hK26 => ?_)
          refine J.region ?_
          refine J.y (op_assign rfl rfl) rfl rfl rfl ?_
          refine J.nil ?_
          refine J.then_n (J.k hK26 ?_)
          refine J.keepE [(2, _)] ⟨rfl, trivial⟩ ?_
          refine J.ret ?_
          exact J.done hw0 (fun _ _ h => h) (res1 rfl rfl) (retOk () (by unfold lett; first | (exfalso; omega) | (rw [if_pos (by omega)]; rfl) | (rw [if_neg (by omega), if_pos (by omega)]; rfl) | (rw [if_neg (by omega), if_neg (by omega), if_pos (by omega)]; rfl) | (rw [if_neg (by omega), if_neg (by omega), if_neg (by omega)]; rfl)) trivial [0] rfl (by decide))
    ·
      refine J.no (Wan.is rfl rfl rfl rfl rfl) rfl rfl ?_
      refine J.no (Wan.is rfl rfl rfl rfl rfl) rfl rfl ?_
      refine J.y (op_pickF rfl rfl rfl) rfl rfl rfl ?_
      refine J.nil ?_
      refine J.then_n (J.k hK20 ?_)
      refine J.keepE [(0, _), (16, _)] ⟨rfl, rfl, trivial⟩ ?_
      refine J.condF rfl rfl ?_
      refine J.skip ?_
      refine J.then_n (J.k hK19 ?_)
      refine J.keepE [(0, _)] ⟨rfl, trivial⟩ ?_
      refine J.seq (fun K27 hK27 => ?_)
      refine J.seq (fun K28 hK28 => ?_)
      refine J.region ?_
      refine J.y (op_move rfl rfl) rfl rfl rfl ?_
      refine J.y (op_geq rfl rfl rfl) rfl rfl rfl ?_
      refine J.y (op_move rfl rfl) rfl rfl rfl ?_
      refine J.split (d := 19) rfl (fun h19 => ?_) (fun h19 => ?_)
      ·
        refine J.yg (Wan.is rfl rfl rfl rfl rfl) (op_move rfl rfl) rfl rfl ?_
        refine J.yg (Wan.is rfl rfl rfl rfl rfl) (op_leq rfl rfl rfl) rfl rfl ?_
        refine J.y (op_pickT rfl rfl rfl) rfl rfl rfl ?_
        refine J.nil ?_
        refine J.then_n (J.k hK28 ?_)
        refine J.keepE [(22, _)] ⟨rfl, trivial⟩ ?_
        refine J.ite rfl (fun h22 => ?_) (fun h22 => ?_)
        ·
          refine J.seq (fun K29 hK29 => ?_)
          refine J.region ?_
          refine J.y (op_assign rfl rfl) rfl rfl rfl ?_
          refine J.nil ?_
          refine J.then_n (J.k hK29 ?_)
          refine J.keepE [(2, _)] ⟨rfl, trivial⟩ ?_
          refine J.ret ?_
          refine J.then_r ?_
          exact J.done hw0 (fun _ _ h => h) (res1 rfl rfl) (retOk () (by unfold lett; first | (exfalso; omega) | (rw [if_pos (by omega)]; rfl) | (rw [if_neg (by omega), if_pos (by omega)]; rfl) | (rw [if_neg (by omega), if_neg (by omega), if_pos (by omega)]; rfl) | (rw [if_neg (by omega), if_neg (by omega), if_neg (by omega)]; rfl)) trivial [0] rfl (by decide))
        ·
          refine J.skip ?_
          refine J.then_n (J.k hK27 ?_)
          refine J.keepE [] trivial ?_
          refine J.seq (fun K30 hK30 => ?_)
          refine J.region ?_
          refine J.y (op_assign rfl rfl) rfl rfl rfl ?_
          refine J.nil ?_
          refine J.then_n (J.k hK30 ?_)
          refine J.keepE [(2, _)] ⟨rfl, trivial⟩ ?_
          refine J.ret ?_
          exact J.done hw0 (fun _ _ h => h) (res1 rfl rfl) (retOk () (by unfold lett; first | (exfalso; omega) | (rw [if_pos (by omega)]; rfl) | (rw [if_neg (by omega), if_pos (by omega)]; rfl) | (rw [if_neg (by omega), if_neg (by omega), if_pos (by omega)]; rfl) | (rw [if_neg (by omega), if_neg (by omega), if_neg (by omega)]; rfl)) trivial [0] rfl (by decide))
      ·
        refine J.no (Wan.is rfl rfl rfl rfl rfl) rfl rfl ?_
        refine J.no (Wan.is rfl rfl rfl rfl rfl) rfl rfl ?_
        refine J.y (op_pickF rfl rfl rfl) rfl rfl rfl ?_
        refine J.nil ?_
        refine J.then_n (J.k hK28 ?_)
        refine J.keepE [(22, _)] ⟨rfl, trivial⟩ ?_
        refine J.condF rfl rfl ?_
        refine J.skip ?_
        refine J.then_n (J.k hK27 ?_)
        refine J.keepE [] trivial ?_
        refine J.seq (fun K31 hK31 => ?_)
        refine J.region ?_
        refine J.y (op_assign rfl rfl) rfl rfl rfl ?_
        refine J.nil ?_
        refine J.then_n (J.k hK31 ?_)
        refine J.keepE [(2, _)] ⟨rfl, trivial⟩ ?_
        refine J.ret ?_
        exact J.done hw0 (fun _ _ h => h) (res1 rfl rfl) (retOk () (by unfold lett; first | (exfalso; omega) | (rw [if_pos (by omega)]; rfl) | (rw [if_neg (by omega), if_pos (by omega)]; rfl) | (rw [if_neg (by omega), if_neg (by omega), if_pos (by omega)]; rfl) | (rw [if_neg (by omega), if_neg (by omega), if_neg (by omega)]; rfl)) trivial [0] rfl (by decide))

end Go.Proofs.YtpcffgkmpmcobaaDoor
