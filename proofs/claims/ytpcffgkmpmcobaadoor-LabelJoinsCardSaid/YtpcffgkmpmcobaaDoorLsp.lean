/- A part of the proof: contracts of functions of the program, each for every state of the heaps that it names. -/
import Derived.Test.YtpcffgkmpmcobaaDoorNrm
set_option linter.unusedSimpArgs false
set_option linter.unusedVariables false
namespace Go.Proofs.YtpcffgkmpmcobaaDoor
open Go Go.Fw
set_option maxRecDepth 100000
set_option maxHeartbeats 1000000
theorem ent16 : Enters Tryd.prog 16 := Enters.of Tryd.func16 rfl (by kernel_rfl)

theorem speaks_ct (F : Hp) (hA : Cells F ⟨0, 0, none⟩ alphaV) (hT : TabsF F) : Ct Tryd.prog 15 [] [F] (fun _ : Unit => .bool true) (fun _ => True) (fun _ => [F]) := by
  refine Ct.walk Tryd.func15 rfl Tryd.ntmps15 rfl (fun w0 hw0 => ?_)
  change J _ [] _ _ _
  refine J.seq (fun K1 hK1 => ?_)
  refine J.region ?_
  refine J.y (op_assign rfl rfl) rfl rfl rfl ?_
  refine J.nil ?_
  refine J.then_n (J.k hK1 ?_)
  refine J.keepE [] trivial ?_
  refine J.seq (fun K2 hK2 => ?_)
  refine J.region ?_
  refine J.e (op_call rfl rfl ent16 (Ct.use0 (fun F' hF => normal_ct F' (hA.mono (hF F (by simp))) (hT.mono (hF F (by simp))) ([65, 108, 105, 99, 101, 64, 69, 120, 97, 109, 112, 108, 101, 46, 111, 114, 103]) (by first | omega | decide)))) rfl rfl rfl ?_
  intro g8 _
  refine J.y (op_move rfl rfl) rfl rfl rfl ?_
  refine J.y (op_extract (v := Str ((normal ([65, 108, 105, 99, 101, 64, 69, 120, 97, 109, 112, 108, 101, 46, 111, 114, 103])).1)) rfl rfl rfl) rfl rfl rfl ?_
  refine J.y (op_extract (v := I (((normal ([65, 108, 105, 99, 101, 64, 69, 120, 97, 109, 112, 108, 101, 46, 111, 114, 103])).2 : Nat) : Int)) rfl rfl rfl) rfl rfl rfl ?_
  refine J.y (op_assign rfl rfl) rfl rfl rfl ?_
  refine J.y (op_assign rfl rfl) rfl rfl rfl ?_
  refine J.nil ?_
  refine J.then_n (J.k hK2 ?_)
  refine J.keepE [(1, _), (2, _)] ⟨rfl, rfl, trivial⟩ ?_
  refine J.seq (fun K3 hK3 => ?_)
  refine J.region ?_
  refine J.e (op_call rfl rfl ent16 (Ct.use0 (fun F' hF => normal_ct F' (hA.mono (hF F (by simp))) (hT.mono (hF F (by simp))) ([206, 145, 206, 146, 45, 208, 182]) (by first | omega | decide)))) rfl rfl rfl ?_
  intro g12 _
  refine J.y (op_move rfl rfl) rfl rfl rfl ?_
  refine J.y (op_extract (v := Str ((normal ([206, 145, 206, 146, 45, 208, 182])).1)) rfl rfl rfl) rfl rfl rfl ?_
  refine J.y (op_extract (v := I (((normal ([206, 145, 206, 146, 45, 208, 182])).2 : Nat) : Int)) rfl rfl rfl) rfl rfl rfl ?_
  refine J.y (op_assign rfl rfl) rfl rfl rfl ?_
  refine J.y (op_assign rfl rfl) rfl rfl rfl ?_
  refine J.nil ?_
  refine J.then_n (J.k hK3 ?_)
  refine J.keepE [(1, _), (2, _), (3, _), (4, _)] ⟨rfl, rfl, rfl, rfl, trivial⟩ ?_
  refine J.seq (fun K4 hK4 => ?_)
  refine J.region ?_
  refine J.e (op_call rfl rfl ent16 (Ct.use0 (fun F' hF => normal_ct F' (hA.mono (hF F (by simp))) (hT.mono (hF F (by simp))) ([97, 208, 182]) (by first | omega | decide)))) rfl rfl rfl ?_
  intro g16 _
  refine J.y (op_move rfl rfl) rfl rfl rfl ?_
  refine J.y (op_extract (v := Str ((normal ([97, 208, 182])).1)) rfl rfl rfl) rfl rfl rfl ?_
  refine J.y (op_extract (v := I (((normal ([97, 208, 182])).2 : Nat) : Int)) rfl rfl rfl) rfl rfl rfl ?_
  refine J.y (op_assign rfl rfl) rfl rfl rfl ?_
  refine J.y (op_assign rfl rfl) rfl rfl rfl ?_
  refine J.nil ?_
  refine J.then_n (J.k hK4 ?_)
  refine J.keepE [(1, _), (2, _), (3, _), (4, _), (6, _)] ⟨rfl, rfl, rfl, rfl, rfl, trivial⟩ ?_
  refine J.seq (fun K5 hK5 => ?_)
  refine J.region ?_
  refine J.y (op_move rfl rfl) rfl rfl rfl ?_
  refine J.y ((op_eql rfl rfl rfl).as (v' := .bool true) (congrArg Value.bool (decide_eq_true (by rw [sp1]; rfl)))) rfl rfl rfl ?_
  refine J.y (op_move rfl rfl) rfl rfl rfl ?_
  refine J.yg (Wan.is rfl rfl rfl rfl rfl) (op_move rfl rfl) rfl rfl ?_
  refine J.yg (Wan.is rfl rfl rfl rfl rfl) ((op_seq rfl rfl rfl).as (v' := .bool true) (congrArg Value.bool (decide_eq_true (by rw [sp1])))) rfl rfl ?_
  refine J.y (op_pickT rfl rfl rfl) rfl rfl rfl ?_
  refine J.y (op_move rfl rfl) rfl rfl rfl ?_
  refine J.yg (Wan.is rfl rfl rfl rfl rfl) (op_move rfl rfl) rfl rfl ?_
  refine J.yg (Wan.is rfl rfl rfl rfl rfl) ((op_eql rfl rfl rfl).as (v' := .bool true) (congrArg Value.bool (decide_eq_true (by rw [sp2]; rfl)))) rfl rfl ?_
  refine J.y (op_pickT rfl rfl rfl) rfl rfl rfl ?_
  refine J.y (op_move rfl rfl) rfl rfl rfl ?_
  refine J.yg (Wan.is rfl rfl rfl rfl rfl) (op_move rfl rfl) rfl rfl ?_
  refine J.yg (Wan.is rfl rfl rfl rfl rfl) ((op_seq rfl rfl rfl).as (v' := .bool true) (congrArg Value.bool (decide_eq_true (by rw [sp2])))) rfl rfl ?_
  refine J.y (op_pickT rfl rfl rfl) rfl rfl rfl ?_
  refine J.y (op_move rfl rfl) rfl rfl rfl ?_
  refine J.yg (Wan.is rfl rfl rfl rfl rfl) (op_move rfl rfl) rfl rfl ?_
  refine J.yg (Wan.is rfl rfl rfl rfl rfl) ((op_eql rfl rfl rfl).as (v' := .bool true) (congrArg Value.bool (decide_eq_true (by rw [sp3]; rfl)))) rfl rfl ?_
  refine J.y (op_pickT rfl rfl rfl) rfl rfl rfl ?_
  refine J.y (op_assign rfl rfl) rfl rfl rfl ?_
  refine J.nil ?_
  refine J.then_n (J.k hK5 ?_)
  refine J.keepE [(0, _)] ⟨rfl, trivial⟩ ?_
  refine J.ret ?_
  exact J.done hw0 (fun _ _ h => h) (res1 rfl rfl) (retOk () rfl trivial [0] rfl (by decide))

end Go.Proofs.YtpcffgkmpmcobaaDoor
