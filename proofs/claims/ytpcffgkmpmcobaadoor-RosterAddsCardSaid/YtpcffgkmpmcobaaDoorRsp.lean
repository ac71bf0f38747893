/- A part of the proof: contracts of functions of the program, each for every state of the heaps that it names. -/
import Derived.Test.YtpcffgkmpmcobaaDoorRol
set_option linter.unusedSimpArgs false
set_option linter.unusedVariables false
namespace Go.Proofs.YtpcffgkmpmcobaaDoor
open Go Go.Fw
set_option maxRecDepth 100000
set_option maxHeartbeats 1000000
theorem ent26 : Enters Tryd.prog 26 := Enters.of Tryd.func26 rfl (by kernel_rfl)
theorem ent27 : Enters Tryd.prog 27 := Enters.of Tryd.func27 rfl (by kernel_rfl)
theorem ent28 : Enters Tryd.prog 28 := Enters.of Tryd.func28 rfl (by kernel_rfl)

theorem speaks20_ct (F : Hp) (hA : Cells F ⟨0, 0, none⟩ alphaV) (hT : TabsF F) : Ct Tryd.prog 25 [] [F] (fun _ : Unit => .bool true) (fun _ => True) (fun _ => [F]) := by
  refine Ct.walk Tryd.func25 rfl Tryd.ntmps25 rfl (fun w0 hw0 => ?_)
  change J _ [] _ _ _
  refine J.seq (fun K1 hK1 => ?_)
  refine J.region ?_
  refine J.y (op_assign rfl rfl) rfl rfl rfl ?_
  refine J.nil ?_
  refine J.then_n (J.k hK1 ?_)
  refine J.keepE [] trivial ?_
  refine J.seq (fun K2 hK2 => ?_)
  refine J.region ?_
  refine J.e (op_call rfl rfl ent26 (Ct.use (new := fun x : Nat × Hp => [x.2]) (fun F' hF => Ct.swap2 (rnew_ct F' )))) rfl rfl rfl ?_
  rintro ⟨g8, m8⟩ h8
  try dsimp only at h8
  change J _ ((8, Ptr g8) :: _) _ [F, m8] _
  refine J.y (op_assign rfl rfl) rfl rfl rfl ?_
  refine J.nil ?_
  refine J.then_n (J.k hK2 ?_)
  refine J.keepE [(1, _)] ⟨rfl, trivial⟩ ?_
  refine J.seq (fun K3 hK3 => ?_)
  refine J.region ?_
  refine J.y (op_move rfl rfl) rfl rfl rfl ?_
  refine J.e (op_call rfl rfl ent28 (Ct.use0 (fun F' hF => key20_ct F' 1 ((2 : Nat) : Int)))) rfl rfl rfl ?_
  intro g11 _
  refine J.y (op_buildStruct (l := [(0, .const ((Value.string (ByteArray.mk #[101, 118, 101])))), (1, .tmp 11)]) (vs := [Str ([101, 118, 101]), .agg #[Str (keyO 1), Str (z16), I (((2 : Nat) : Int))]]) (places := [(0, 1), (1, 3)]) (r := [Str ([101, 118, 101]), Str (keyO 1), Str (z16), I (((2 : Nat) : Int))]) rfl rfl rfl Tryd.underlying50 Tryd.zeroValue50 (fun _ => by kernel_rfl) rfl) rfl rfl rfl ?_
  refine J.e (op_call rfl rfl ent27 (Ct.use1 1 (m' := fun x : Hp => x) (new := fun _ => []) rfl (fun F' hF => radd_ct F' m8 g8 ([]) h8 (hA.mono (hF F (by simp))) (hT.mono (hF F (by simp))) ([101, 118, 101]) (keyO 1) z16 ((2 : Nat) : Int) (by first | omega | exact Nat.le_of_ble_eq_true rfl | (rw [List.length_map]; omega)) (by first | omega | exact Nat.le_of_ble_eq_true rfl | (rw [List.length_map]; omega)) (by first | omega | exact Nat.le_of_ble_eq_true rfl | (rw [List.length_map]; omega)) (by first | omega | exact Nat.le_of_ble_eq_true rfl | (rw [List.length_map]; omega))))) rfl rfl rfl ?_
  rintro m13 h13
  change J _ ((13, .tuple #[I (addNo ([]) ([101, 118, 101]) (keyO 1) z16 ((2 : Nat) : Int)), I (addE ([]) ([101, 118, 101]) (keyO 1) z16 ((2 : Nat) : Int))]) :: _) _ [F, m13] _
  refine J.y (op_move rfl rfl) rfl rfl rfl ?_
  refine J.y (op_extract (v := I (addNo ([]) ([101, 118, 101]) (keyO 1) z16 ((2 : Nat) : Int))) rfl rfl rfl) rfl rfl rfl ?_
  refine J.y (op_extract (v := I (addE ([]) ([101, 118, 101]) (keyO 1) z16 ((2 : Nat) : Int))) rfl rfl rfl) rfl rfl rfl ?_
  refine J.y (op_assign rfl rfl) rfl rfl rfl ?_
  refine J.y (op_assign rfl rfl) rfl rfl rfl ?_
  refine J.nil ?_
  refine J.then_n (J.k hK3 ?_)
  refine J.keepE [(1, _), (2, _), (3, _)] ⟨rfl, rfl, rfl, trivial⟩ ?_
  refine J.seq (fun K4 hK4 => ?_)
  replace h13 := (congrArg (Rost m13 g8) sp_al).mp h13
  refine J.region ?_
  refine J.y (op_move rfl rfl) rfl rfl rfl ?_
  refine J.e (op_call rfl rfl ent28 (Ct.use0 (fun F' hF => key20_ct F' 2 ((2 : Nat) : Int)))) rfl rfl rfl ?_
  intro g18 _
  refine J.y (op_buildStruct (l := [(0, .const ((Value.string (ByteArray.mk #[109, 97, 108, 108, 111, 114, 121])))), (1, .tmp 18)]) (vs := [Str ([109, 97, 108, 108, 111, 114, 121]), .agg #[Str (keyO 2), Str (z16), I (((2 : Nat) : Int))]]) (places := [(0, 1), (1, 3)]) (r := [Str ([109, 97, 108, 108, 111, 114, 121]), Str (keyO 2), Str (z16), I (((2 : Nat) : Int))]) rfl rfl rfl Tryd.underlying50 Tryd.zeroValue50 (fun _ => by kernel_rfl) rfl) rfl rfl rfl ?_
  refine J.e (op_call rfl rfl ent27 (Ct.use1 1 (m' := fun x : Hp => x) (new := fun _ => []) rfl (fun F' hF => radd_ct F' m13 g8 ([⟨eve, keyO 1, z16, 2⟩]) h13 (hA.mono (hF F (by simp))) (hT.mono (hF F (by simp))) ([109, 97, 108, 108, 111, 114, 121]) (keyO 2) z16 ((2 : Nat) : Int) (by first | omega | exact Nat.le_of_ble_eq_true rfl | (rw [List.length_map]; omega)) (by first | omega | exact Nat.le_of_ble_eq_true rfl | (rw [List.length_map]; omega)) (by first | omega | exact Nat.le_of_ble_eq_true rfl | (rw [List.length_map]; omega)) (by first | omega | exact Nat.le_of_ble_eq_true rfl | (rw [List.length_map]; omega))))) rfl rfl rfl ?_
  rintro m20 h20
  change J _ ((20, .tuple #[I (addNo ([⟨eve, keyO 1, z16, 2⟩]) ([109, 97, 108, 108, 111, 114, 121]) (keyO 2) z16 ((2 : Nat) : Int)), I (addE ([⟨eve, keyO 1, z16, 2⟩]) ([109, 97, 108, 108, 111, 114, 121]) (keyO 2) z16 ((2 : Nat) : Int))]) :: _) _ [F, m20] _
  refine J.y (op_move rfl rfl) rfl rfl rfl ?_
  refine J.y (op_extract (v := I (addNo ([⟨eve, keyO 1, z16, 2⟩]) ([109, 97, 108, 108, 111, 114, 121]) (keyO 2) z16 ((2 : Nat) : Int))) rfl rfl rfl) rfl rfl rfl ?_
  refine J.y (op_extract (v := I (addE ([⟨eve, keyO 1, z16, 2⟩]) ([109, 97, 108, 108, 111, 114, 121]) (keyO 2) z16 ((2 : Nat) : Int))) rfl rfl rfl) rfl rfl rfl ?_
  refine J.y (op_assign rfl rfl) rfl rfl rfl ?_
  refine J.y (op_assign rfl rfl) rfl rfl rfl ?_
  refine J.nil ?_
  refine J.then_n (J.k hK4 ?_)
  refine J.keepE [(1, _), (2, _), (3, _), (4, _), (5, _)] ⟨rfl, rfl, rfl, rfl, rfl, trivial⟩ ?_
  refine J.seq (fun K5 hK5 => ?_)
  replace h20 := (congrArg (Rost m20 g8) sp_bl).mp h20
  refine J.region ?_
  refine J.y (op_move rfl rfl) rfl rfl rfl ?_
  refine J.e (op_call rfl rfl ent28 (Ct.use0 (fun F' hF => key20_ct F' 3 ((2 : Nat) : Int)))) rfl rfl rfl ?_
  intro g25 _
  refine J.y (op_buildStruct (l := [(0, .const ((Value.string (ByteArray.mk #[101, 118, 101])))), (1, .tmp 25)]) (vs := [Str ([101, 118, 101]), .agg #[Str (keyO 3), Str (z16), I (((2 : Nat) : Int))]]) (places := [(0, 1), (1, 3)]) (r := [Str ([101, 118, 101]), Str (keyO 3), Str (z16), I (((2 : Nat) : Int))]) rfl rfl rfl Tryd.underlying50 Tryd.zeroValue50 (fun _ => by kernel_rfl) rfl) rfl rfl rfl ?_
  refine J.e (op_call rfl rfl ent27 (Ct.use1 1 (m' := fun x : Hp => x) (new := fun _ => []) rfl (fun F' hF => radd_ct F' m20 g8 ([⟨eve, keyO 1, z16, 2⟩, ⟨mallory, keyO 2, z16, 2⟩]) h20 (hA.mono (hF F (by simp))) (hT.mono (hF F (by simp))) ([101, 118, 101]) (keyO 3) z16 ((2 : Nat) : Int) (by first | omega | exact Nat.le_of_ble_eq_true rfl | (rw [List.length_map]; omega)) (by first | omega | exact Nat.le_of_ble_eq_true rfl | (rw [List.length_map]; omega)) (by first | omega | exact Nat.le_of_ble_eq_true rfl | (rw [List.length_map]; omega)) (by first | omega | exact Nat.le_of_ble_eq_true rfl | (rw [List.length_map]; omega))))) rfl rfl rfl ?_
  rintro m27 h27
  change J _ ((27, .tuple #[I (addNo ([⟨eve, keyO 1, z16, 2⟩, ⟨mallory, keyO 2, z16, 2⟩]) ([101, 118, 101]) (keyO 3) z16 ((2 : Nat) : Int)), I (addE ([⟨eve, keyO 1, z16, 2⟩, ⟨mallory, keyO 2, z16, 2⟩]) ([101, 118, 101]) (keyO 3) z16 ((2 : Nat) : Int))]) :: _) _ [F, m27] _
  refine J.y (op_move rfl rfl) rfl rfl rfl ?_
  refine J.y (op_extract (v := I (addNo ([⟨eve, keyO 1, z16, 2⟩, ⟨mallory, keyO 2, z16, 2⟩]) ([101, 118, 101]) (keyO 3) z16 ((2 : Nat) : Int))) rfl rfl rfl) rfl rfl rfl ?_
  refine J.y (op_extract (v := I (addE ([⟨eve, keyO 1, z16, 2⟩, ⟨mallory, keyO 2, z16, 2⟩]) ([101, 118, 101]) (keyO 3) z16 ((2 : Nat) : Int))) rfl rfl rfl) rfl rfl rfl ?_
  refine J.y (op_assign rfl rfl) rfl rfl rfl ?_
  refine J.y (op_assign rfl rfl) rfl rfl rfl ?_
  refine J.nil ?_
  refine J.then_n (J.k hK5 ?_)
  refine J.keepE [(1, _), (2, _), (3, _), (4, _), (5, _), (7, _)] ⟨rfl, rfl, rfl, rfl, rfl, rfl, trivial⟩ ?_
  refine J.seq (fun K6 hK6 => ?_)
  replace h27 := (congrArg (Rost m27 g8) sp_cl).mp h27
  refine J.region ?_
  refine J.y (op_move rfl rfl) rfl rfl rfl ?_
  refine J.y ((op_eql rfl rfl rfl).as (v' := .bool true) (congrArg Value.bool (decide_eq_true (sp_a)))) rfl rfl rfl ?_
  refine J.y (op_move rfl rfl) rfl rfl rfl ?_
  refine J.yg (Wan.is rfl rfl rfl rfl rfl) (op_move rfl rfl) rfl rfl ?_
  refine J.yg (Wan.is rfl rfl rfl rfl rfl) ((op_eql rfl rfl rfl).as (v' := .bool true) (congrArg Value.bool (decide_eq_true (sp_b)))) rfl rfl ?_
  refine J.y (op_pickT rfl rfl rfl) rfl rfl rfl ?_
  refine J.y (op_move rfl rfl) rfl rfl rfl ?_
  refine J.yg (Wan.is rfl rfl rfl rfl rfl) (op_move rfl rfl) rfl rfl ?_
  refine J.yg (Wan.is rfl rfl rfl rfl rfl) ((op_eql rfl rfl rfl).as (v' := .bool true) (congrArg Value.bool (decide_eq_true (sp_c)))) rfl rfl ?_
  refine J.y (op_pickT rfl rfl rfl) rfl rfl rfl ?_
  refine J.y (op_move rfl rfl) rfl rfl rfl ?_
  refine J.yg (Wan.is rfl rfl rfl rfl rfl) (op_move rfl rfl) rfl rfl ?_
  refine J.yg (Wan.is rfl rfl rfl rfl rfl) ((op_eql rfl rfl rfl).as (v' := .bool true) (congrArg Value.bool (decide_eq_true (sp_an)))) rfl rfl ?_
  refine J.y (op_pickT rfl rfl rfl) rfl rfl rfl ?_
  refine J.y (op_move rfl rfl) rfl rfl rfl ?_
  refine J.yg (Wan.is rfl rfl rfl rfl rfl) (op_move rfl rfl) rfl rfl ?_
  refine J.yg (Wan.is rfl rfl rfl rfl rfl) ((op_eql rfl rfl rfl).as (v' := .bool true) (congrArg Value.bool (decide_eq_true (sp_bn)))) rfl rfl ?_
  refine J.y (op_pickT rfl rfl rfl) rfl rfl rfl ?_
  refine J.y (op_move rfl rfl) rfl rfl rfl ?_
  refine J.yg (Wan.is rfl rfl rfl rfl rfl) (op_move rfl rfl) rfl rfl ?_
  refine J.eg (Wan.is rfl rfl rfl rfl rfl) (op_call rfl rfl ent30 (Ct.use1 1 (m' := fun _ : Unit => m27) (new := fun _ => []) rfl (fun F' hF => rlen20_ct F' m27 g8 ([⟨eve, keyO 1, z16, 2⟩, ⟨mallory, keyO 2, z16, 2⟩]) h27 ))) rfl rfl ?_
  rintro _ _
  change J _ _ _ [F, m27] _
  refine J.yg (Wan.is rfl rfl rfl rfl rfl) ((op_eql rfl rfl rfl).as (v' := .bool true) (congrArg Value.bool (decide_eq_true (rfl)))) rfl rfl ?_
  refine J.y (op_pickT rfl rfl rfl) rfl rfl rfl ?_
  refine J.y (op_assign rfl rfl) rfl rfl rfl ?_
  refine J.nil ?_
  refine J.then_n (J.k hK6 ?_)
  refine J.keepE [(0, _)] ⟨rfl, trivial⟩ ?_
  refine J.ret ?_
  exact J.done hw0 (fun _ _ h => h) (res1 rfl rfl) (retOk () rfl trivial [0] rfl (by decide))

end Go.Proofs.YtpcffgkmpmcobaaDoor
