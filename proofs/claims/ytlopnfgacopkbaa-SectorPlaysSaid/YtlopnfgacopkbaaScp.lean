/- A part of the proof: contracts of functions of the program, each for every state of the heaps that it names. -/
import Derived.Test.YtlopnfgacopkbaaSec
set_option linter.unusedSimpArgs false
set_option linter.unusedVariables false
namespace Go.Proofs.Ytlopnfgacopkbaa
open Go Go.Fw
set_option maxRecDepth 100000
set_option maxHeartbeats 1000000
theorem ent7 : Enters Try.prog 7 := Enters.of Try.func7 rfl (by kernel_rfl)
theorem ent8 : Enters Try.prog 8 := Enters.of Try.func8 rfl (by kernel_rfl)
theorem ent9 : Enters Try.prog 9 := Enters.of Try.func9 rfl (by kernel_rfl)
theorem ent12 : Enters Try.prog 12 := Enters.of Try.func12 rfl (by kernel_rfl)
theorem ent13 : Enters Try.prog 13 := Enters.of Try.func13 rfl (by kernel_rfl)
theorem ent18 : Enters Try.prog 18 := Enters.of Try.func18 rfl (by kernel_rfl)
theorem ent19 : Enters Try.prog 19 := Enters.of Try.func19 rfl (by kernel_rfl)

theorem speaks09_ct (F : Hp) : Ct Try.prog 6 [] [F] (fun _ : Unit => .bool true) (fun _ => True) (fun _ => [F]) := by
  refine Ct.walk Try.func6 rfl Try.ntmps6 rfl (fun w0 hw0 => ?_)
  change J _ [] _ _ _
  refine J.seq (fun K1 hK1 => ?_)
  refine J.region ?_
  refine J.y (op_assign rfl rfl) rfl rfl rfl ?_
  refine J.nil ?_
  refine J.then_n (J.k hK1 ?_)
  refine J.keepE [] trivial ?_
  refine J.seq (fun K2 hK2 => ?_)
  refine J.region ?_
  refine J.e (op_call rfl rfl ent7 (Ct.use (new := fun x : Nat × Hp => [x.2]) (fun F' _ => new_ok_ct F' 4 (by decide) (by decide)))) rfl rfl rfl ?_
  rintro ⟨g7, m7⟩ hb7
  try dsimp only at hb7
  change J _ _ _ [F, m7] _
  refine J.y (op_move rfl rfl) rfl rfl rfl ?_
  refine J.y (op_extract (v := Ptr g7) rfl rfl rfl) rfl rfl rfl ?_
  refine J.y (op_extract (v := I 0) rfl rfl rfl) rfl rfl rfl ?_
  refine J.y (op_assign rfl rfl) rfl rfl rfl ?_
  refine J.y (op_assign rfl rfl) rfl rfl rfl ?_
  refine J.nil ?_
  refine J.then_n (J.k hK2 ?_)
  refine J.keepE [(1, _), (2, _)] ⟨rfl, rfl, trivial⟩ ?_
  refine J.seq (fun K3 hK3 => ?_)
  refine J.seq (fun K4 hK4 => ?_)
  refine J.region ?_
  refine J.y (op_move rfl rfl) rfl rfl rfl ?_
  refine J.y ((op_neq rfl rfl rfl).as (v' := .bool false) (congrArg Value.bool (decide_eq_false (by decide)))) rfl rfl rfl ?_
  refine J.y (op_move rfl rfl) rfl rfl rfl ?_
  refine J.yg (Wan.is rfl rfl rfl rfl rfl) (op_move rfl rfl) rfl rfl ?_
  refine J.eg (Wan.is rfl rfl rfl rfl rfl) (op_call rfl rfl ent9 (Ct.use1 1 (m' := fun x : Hp => x) (new := fun _ => []) rfl (fun F' hF => write_ct F' m7 g7 (Dk.new 4) none 0 hb7 (Dk.new_ok (by decide) (by decide)) (by decide) Sl.nil (by decide) 0 [97, 98, 99] (by decide)))) rfl rfl ?_
  rintro m14 hb14
  change J _ _ _ [F, m14] _
  refine J.yg (Wan.is rfl rfl rfl rfl rfl) ((op_neq rfl rfl rfl).as (v' := .bool false) (congrArg Value.bool (decide_eq_false (by decide)))) rfl rfl ?_
  refine J.y (op_pickF rfl rfl rfl) rfl rfl rfl ?_
  refine J.nil ?_
  refine J.then_n (J.k hK4 ?_)
  refine J.keepE [(1, _), (16, _)] ⟨rfl, rfl, trivial⟩ ?_
  refine J.condF rfl rfl ?_
  refine J.skip ?_
  refine J.then_n (J.k hK3 ?_)
  refine J.keepE [(1, _)] ⟨rfl, trivial⟩ ?_
  refine J.seq (fun K5 hK5 => ?_)
  refine J.region ?_
  refine J.y (op_move rfl rfl) rfl rfl rfl ?_
  refine J.e (op_buildSlice (l := [.const ((Value.int IntKind.u8 2))]) (xs := [[B8 2]]) rfl rfl rfl rfl Try.underlying23 el5 rfl (by decide) (by decide) (by simp)) rfl rfl rfl ?_
  intro g18 _
  change J _ _ _ [F, m14, blk g18 [B8 2] 5] _
  refine J.e (op_call rfl rfl ent11 (Ct.use1 1 (m' := fun x : Hp => x) (new := fun _ => []) rfl (fun F' hF => cutB_ct F' m14 g7 ((Dk.new 4).write 0 [97, 98, 99]) none 0 hb14 ((Dk.new_ok (by decide) (by decide)).write 0 [97, 98, 99]).1 (by decide) [2] (some ⟨g18, 0, none⟩) 1 ((slB [2] rfl).mono (hF (blk g18 [B8 2] 5) (by simp))) (by decide)))) rfl rfl rfl ?_
  rintro m19 hb19
  change J _ _ _ [F, m19, blk g18 [B8 2] 5] _
  obtain ⟨A, c, B, e, hc, hsL, hsW⟩ := hb19.see
  refine J.nil ?_
  refine J.then_n (J.k hK5 ?_)
  refine J.keepE [(1, _)] ⟨rfl, trivial⟩ ?_
  refine J.seq (fun K6 hK6 => ?_)
  refine J.region ?_
  refine J.y (op_move rfl rfl) rfl rfl rfl ?_
  refine J.e (op_call rfl rfl ent18 (Ct.use0 (fun F' hF => on_ct F' g7 (((Dk.new 4).write 0 [97, 98, 99]).cut [2]) A c B e none 0 (hc.mono (hF m19 (by simp)))))) rfl rfl rfl ?_
  intro g21 _
  refine J.y ((op_not rfl rfl).as (v' := .bool true) rfl) rfl rfl rfl ?_
  refine J.y (op_assign rfl rfl) rfl rfl rfl ?_
  refine J.nil ?_
  refine J.then_n (J.k hK6 ?_)
  refine J.keepE [(1, _), (3, _)] ⟨rfl, rfl, trivial⟩ ?_
  refine J.seq (fun K7 hK7 => ?_)
  refine J.region ?_
  refine J.y (op_move rfl rfl) rfl rfl rfl ?_
  refine J.e (op_call rfl rfl ent12 (Ct.use1 1 (m' := fun x : Hp => x) (new := fun _ => []) rfl (fun F' hF => start_ct F' m19 g7 (((Dk.new 4).write 0 [97, 98, 99]).cut [2]) none 0 hb19 (((Dk.new_ok (by decide) (by decide)).write 0 [97, 98, 99]).cut [2])))) rfl rfl rfl ?_
  rintro m24 hb24
  change J _ _ _ [F, m24, blk g18 [B8 2] 5] _
  obtain ⟨A2, c2, B2, e2, hc2, hsL2, hsW2⟩ := hb24.see
  refine J.nil ?_
  refine J.then_n (J.k hK7 ?_)
  refine J.keepE [(1, _), (3, _)] ⟨rfl, rfl, trivial⟩ ?_
  refine J.seq (fun K8 hK8 => ?_)
  refine J.region ?_
  refine J.y (op_move rfl rfl) rfl rfl rfl ?_
  refine J.e (op_call rfl rfl ent13 (Ct.use0 (fun F' hF => read_ct F' g7 ((((Dk.new 4).write 0 [97, 98, 99]).cut [2]).start) A2 c2 B2 e2 none 0 (hc2.mono (hF m24 (by simp))) (hsL2.mono (hF m24 (by simp))) (hsW2.mono (hF m24 (by simp))) 0 (by decide) (by decide)))) rfl rfl rfl ?_
  intro g27 _
  refine J.y (op_move rfl rfl) rfl rfl rfl ?_
  refine J.y (op_extract (v := Str (((((Dk.new 4).write 0 [97, 98, 99]).cut [2]).start).read 0)) rfl rfl rfl) rfl rfl rfl ?_
  refine J.y (op_extract (v := I (((((Dk.new 4).write 0 [97, 98, 99]).cut [2]).start).ready 0)) rfl rfl rfl) rfl rfl rfl ?_
  refine J.y (op_assign rfl rfl) rfl rfl rfl ?_
  refine J.y (op_assign rfl rfl) rfl rfl rfl ?_
  refine J.nil ?_
  refine J.then_n (J.k hK8 ?_)
  refine J.keepE [(1, _), (3, _), (4, _), (5, _)] ⟨rfl, rfl, rfl, rfl, trivial⟩ ?_
  refine J.seq (fun K9 hK9 => ?_)
  refine J.region ?_
  refine J.y (op_move rfl rfl) rfl rfl rfl ?_
  refine J.y (op_move rfl rfl) rfl rfl rfl ?_
  refine J.yg (Wan.is rfl rfl rfl rfl rfl) (op_move rfl rfl) rfl rfl ?_
  refine J.yg (Wan.is rfl rfl rfl rfl rfl) ((op_eql rfl rfl rfl).as (v' := .bool true) (congrArg Value.bool (decide_eq_true (by decide)))) rfl rfl ?_
  refine J.y (op_pickT rfl rfl rfl) rfl rfl rfl ?_
  refine J.y (op_move rfl rfl) rfl rfl rfl ?_
  refine J.yg (Wan.is rfl rfl rfl rfl rfl) (op_move rfl rfl) rfl rfl ?_
  refine J.eg (Wan.is rfl rfl rfl rfl rfl) (op_call rfl rfl ent8 (Ct.use0 (fun F' hF => full_ct F' [97, 98] (by decide)))) rfl rfl ?_
  intro g37 _
  refine J.yg (Wan.is rfl rfl rfl rfl rfl) ((op_seq rfl rfl rfl).as (v' := .bool true) (congrArg Value.bool (decide_eq_true (by decide +kernel)))) rfl rfl ?_
  refine J.y (op_pickT rfl rfl rfl) rfl rfl rfl ?_
  refine J.y (op_move rfl rfl) rfl rfl rfl ?_
  refine J.yg (Wan.is rfl rfl rfl rfl rfl) (op_move rfl rfl) rfl rfl ?_
  refine J.eg (Wan.is rfl rfl rfl rfl rfl) (op_call rfl rfl ent19 (Ct.use0 (fun F' hF => count_ct F' g7 ((((Dk.new 4).write 0 [97, 98, 99]).cut [2]).start) A2 c2 B2 e2 none 0 (hc2.mono (hF m24 (by simp)))))) rfl rfl ?_
  intro g42 _
  refine J.yg (Wan.is rfl rfl rfl rfl rfl) ((op_eql rfl rfl rfl).as (v' := .bool true) (congrArg Value.bool (decide_eq_true (by decide +kernel)))) rfl rfl ?_
  refine J.y (op_pickT rfl rfl rfl) rfl rfl rfl ?_
  refine J.y (op_assign rfl rfl) rfl rfl rfl ?_
  refine J.nil ?_
  refine J.then_n (J.k hK9 ?_)
  refine J.keepE [(0, _)] ⟨rfl, trivial⟩ ?_
  refine J.ret ?_
  exact J.done hw0 (fun _ _ h => h) (res1 rfl rfl) (retOk () rfl trivial [0] rfl (by decide))

end Go.Proofs.Ytlopnfgacopkbaa
