/- A part of the proof: contracts of functions of the program, each for every state of the heaps that it names. -/
import Derived.Test.YtnkfapecbmmpeaaDoorTopRlG28
import Derived.Test.YtnkfapecbmmpeaaDoorTopRlG20
set_option linter.unusedSimpArgs false
set_option linter.unusedVariables false
namespace Go.Proofs.YtnkfapecbmmpeaaDoor
open Go Go.Fw
set_option maxRecDepth 100000
set_option maxHeartbeats 1000000
theorem ent8 : Enters Tryd.prog 8 := Enters.of Tryd.func8 rfl (by kernel_rfl)
theorem ent10 : Enters Tryd.prog 10 := Enters.of Tryd.func10 rfl (by kernel_rfl)
theorem ent13 : Enters Tryd.prog 13 := Enters.of Tryd.func13 rfl (by kernel_rfl)
theorem ent14 : Enters Tryd.prog 14 := Enters.of Tryd.func14 rfl (by kernel_rfl)
theorem ent15 : Enters Tryd.prog 15 := Enters.of Tryd.func15 rfl (by kernel_rfl)
theorem ent18 : Enters Tryd.prog 18 := Enters.of Tryd.func18 rfl (by kernel_rfl)
theorem ent19 : Enters Tryd.prog 19 := Enters.of Tryd.func19 rfl (by kernel_rfl)
theorem ent20 : Enters Tryd.prog 20 := Enters.of Tryd.func20 rfl (by kernel_rfl)
theorem ent22 : Enters Tryd.prog 22 := Enters.of Tryd.func22 rfl (by kernel_rfl)

theorem and15 (n : UInt8) : (n &&& 15).toNat ≤ 15 := by
  rw [UInt8.toNat_and]; exact Nat.and_le_right
theorem audL_small (C : Nat) : ∀ x ∈ audL C, x.nm.length ≤ 1000000 ∧ x.op.length ≤ 1048576 ∧ x.rt.length ≤ 1048576 := fun x hx => by
  obtain ⟨j, _, rfl⟩ := List.mem_map.1 hx
  exact ⟨Nat.le_of_ble_eq_true rfl, Nat.le_of_ble_eq_true rfl, Nat.le_of_ble_eq_true rfl⟩
theorem audA_err (j : Nat) : pubErr (audA j).op (audA j).rt (audA j).ht = 0 := by
  show pubErr (keyO (UInt8.ofNat j)) z16 1 = 0
  rw [key_err]; rfl
theorem audA_val (j : Nat) : audV (audA j) = Sha.tagged 16 [nmA j, pubEnc (keyO (UInt8.ofNat j)) z16 1] := by
  unfold audV
  rw [if_pos (audA_err j)]; rfl
theorem layA_get {C j : Nat} (h : C ≤ 15) (hj : j < C) : Sm.getP (layP [] (audL C) C) (placeK j) = some (audV (audA j)) := by
  rw [layP_get (audL C) h hj, audL_get hj]

theorem rosterLays_ct (F : Hp) (hK : Cells F ⟨1, 0, none⟩ (Sha.K.map W32)) (hA : Cells F ⟨0, 0, none⟩ alphaV) (hT : TabsF F) (n : UInt8) (lb : List UInt8) : Ct Tryd.prog 3 [B8 (n), Str (lb)] [F] (fun _ : Unit => .bool true) (fun _ => True) (fun _ => [F]) := by
  refine Ct.walk Tryd.func3 rfl Tryd.ntmps3 rfl (fun w0 hw0 => ?_)
  change J _ [(0, _), (1, _)] _ _ _
  refine J.seq (fun K1 hK1 => ?_)
  refine J.region ?_
  refine J.y (op_assign rfl rfl) rfl rfl rfl ?_
  refine J.nil ?_
  refine J.then_n (J.k hK1 ?_)
  refine J.keepE [(0, _), (1, _)] ⟨rfl, rfl, trivial⟩ ?_
  refine J.seq (fun K2 hK2 => ?_)
  refine J.seq (fun K3 hK3 => ?_)
  refine J.region ?_
  refine J.e (op_call rfl rfl ent8 (Ct.use0 (fun F' hF => speaks20_ct F' (hA.mono (hF F (by simp))) (hT.mono (hF F (by simp)))))) rfl rfl rfl ?_
  intro g21 _
  refine J.y (op_not rfl rfl) rfl rfl rfl ?_
  refine J.nil ?_
  refine J.then_n (J.k hK3 ?_)
  refine J.keepE [(0, _), (1, _), (22, _)] ⟨rfl, rfl, rfl, trivial⟩ ?_
  refine J.condF rfl rfl ?_
  refine J.skip ?_
  refine J.then_n (J.k hK2 ?_)
  refine J.keepE [(0, _), (1, _)] ⟨rfl, rfl, trivial⟩ ?_
  refine J.seq (fun K4 hK4 => ?_)
  refine J.region ?_
  refine J.e (op_call rfl rfl ent9 (Ct.use (new := fun x : Nat × Hp => [x.2]) (fun F' hF => Ct.swap2 (rnew_ct F' )))) rfl rfl rfl ?_
  rintro ⟨g23, m23⟩ h23
  try dsimp only at h23
  change J _ ((23, Ptr g23) :: _) _ [F, m23] _
  refine J.y (op_assign rfl rfl) rfl rfl rfl ?_
  refine J.nil ?_
  refine J.then_n (J.k hK4 ?_)
  refine J.keepE [(0, _), (1, _), (5, _)] ⟨rfl, rfl, rfl, trivial⟩ ?_
  refine J.seq (fun K5 hK5 => ?_)
  refine J.region ?_
  refine J.e (op_call rfl rfl ent10 (Ct.use (new := fun x : Nat × Hp => [x.2]) (fun F' hF => Ct.swap2 (tnew_ct F' )))) rfl rfl rfl ?_
  rintro ⟨g24, m24⟩ h24
  try dsimp only at h24
  change J _ ((24, Ptr g24) :: _) _ [F, m23, m24] _
  refine J.y (op_assign rfl rfl) rfl rfl rfl ?_
  refine J.nil ?_
  refine J.then_n (J.k hK5 ?_)
  refine J.keepE [(0, _), (1, _), (5, _), (6, _)] ⟨rfl, rfl, rfl, rfl, trivial⟩ ?_
  refine J.seq (fun K6 hK6 => ?_)
  refine J.region ?_
  refine J.y (op_move rfl rfl) rfl rfl rfl ?_
  refine J.y (op_and8 (b := 15) rfl rfl rfl) rfl rfl rfl ?_
  refine J.y (op_cv_u8_i64 rfl rfl Tryd.underlying5 Tryd.underlying3) rfl rfl rfl ?_
  refine J.y (op_assign rfl rfl) rfl rfl rfl ?_
  refine J.nil ?_
  refine J.then_n (J.k hK6 ?_)
  refine J.keepE [(1, _), (5, _), (6, _), (7, _)] ⟨rfl, rfl, rfl, rfl, trivial⟩ ?_
  refine J.seq (fun K7 hK7 => ?_)
  refine J.seq (fun K8 hK8 => ?_)
  obtain ⟨C, hC⟩ : ∃ C, C = (n &&& 15).toNat := ⟨_, rfl⟩
  rw [← hC]
  have hC15 : C ≤ 15 := by rw [hC]; exact and15 n
  refine J.region ?_
  refine J.y (op_assign rfl rfl) rfl rfl rfl ?_
  refine J.nil ?_
  refine J.then_n (J.k hK8 ?_)
  refine J.keepE [(1, _), (5, _), (6, _), (7, _), (8, _)] ⟨rfl, rfl, rfl, rfl, rfl, trivial⟩ ?_
  refine J.block ?_
  refine J.loop (X := Nat × Hp) (fun ζ => [(1, Str (lb)), (5, Ptr g23), (6, Ptr g24), (7, I ((C : Nat) : Int)), (8, I ((ζ.1 : Nat) : Int))]) (fun ζ => [F, ζ.2, m24]) (fun ζ => ζ.1 ≤ C ∧ Rost ζ.2 g23 (audL ζ.1)) (fun ζ => C - ζ.1) (0, m23) (⟨Nat.zero_le _, h23⟩) ⟨rfl, rfl, rfl, rfl, rfl, trivial⟩ (fun _ h => h) ?_
  rintro ⟨i, mo⟩ ⟨hi, hb⟩ I0 hI0
  dsimp only at hi hb ⊢
  have hal := audL_len i
  refine J.seq (fun K9 hK9 => ?_)
  refine J.seq (fun K10 hK10 => ?_)
  refine J.region ?_
  refine J.y (op_move rfl rfl) rfl rfl rfl ?_
  refine J.y (op_move rfl rfl) rfl rfl rfl ?_
  refine J.y (op_lss rfl rfl rfl) rfl rfl rfl ?_
  refine J.nil ?_
  refine J.then_n (J.k hK10 ?_)
  refine J.keepE [(1, _), (5, _), (6, _), (7, _), (8, _), (30, _)] ⟨rfl, rfl, rfl, rfl, rfl, rfl, trivial⟩ ?_
  refine J.ite rfl (fun h30 => ?_) (fun h30 => ?_)
  ·
    refine J.skip ?_
    refine J.then_n (J.k hK9 ?_)
    refine J.keepE [(1, _), (5, _), (6, _), (7, _), (8, _)] ⟨rfl, rfl, rfl, rfl, rfl, trivial⟩ ?_
    refine J.seq (fun K11 hK11 => ?_)
    refine J.block ?_
    refine J.draw [F] [] (.y 0 (.y 1 (.y 2 (.y 3 (.y 7 (.y 8 (.br (.e 4 (.y 5 (.y 6 (.e 9 (.y 10 (.e 11 .nil)))))) (.e 9 (.e 4 (.y 5 (.y 6 (.y 10 (.e 11 .nil))))))))))))) Tryd.wide (by decide +kernel) (by simp) ?_
    refine J.dy rfl (op_move rfl rfl) rfl rfl rfl rfl ?_
    refine J.dy rfl (op_move rfl rfl) rfl rfl rfl rfl ?_
    refine J.dy rfl ((op_add rfl rfl rfl (by first | omega | (simp only [List.length_append, List.length_cons, List.length_nil, List.length_take, List.length_drop] at *; omega))).as (v' := I ((97 + i : Nat) : Int)) (congrArg I (by omega))) rfl rfl rfl rfl ?_
    refine J.dy rfl (op_cv_i64_u8 (m := 97 + i) rfl rfl Tryd.underlying3 Tryd.underlying5) rfl rfl rfl rfl ?_
    refine J.dy rfl (op_move rfl rfl) rfl rfl rfl rfl ?_
    refine J.dy rfl (op_cv_i64_u8 (m := i) rfl rfl Tryd.underlying3 Tryd.underlying5) rfl rfl rfl rfl ?_
    refine J.dbr ?_ ?_
    ·
      refine J.deN (fun g => _ ++ [blk g [B8 (UInt8.ofNat (97 + i))] 5]) rfl (op_buildSlice (l := [.tmp 36]) (xs := [[B8 (UInt8.ofNat (97 + i))]]) rfl rfl rfl rfl Tryd.underlying30 el5 rfl (by decide) (by decide) (by simp)) rfl rfl rfl (fun _ _ h => List.mem_append_left _ h) (by simp) ?_
      intro g37 _
      change J _ _ _ [F, mo, m24, blk g37 [B8 (UInt8.ofNat (97 + i))] 5] _
      refine J.dy rfl (op_toStr (l := [UInt8.ofNat (97 + i)]) rfl rfl Tryd.underlying30 Tryd.underlying5 Tryd.underlying9 (m := blk g37 [B8 (UInt8.ofNat (97 + i))] 5) (by simp) ((row_lit (q := True) (bytesV [UInt8.ofNat (97 + i)]) rfl (by simp [bytesV]) rfl).sl)) rfl rfl rfl rfl ?_
      refine J.dy rfl (op_sadd (a := [97]) (b := [UInt8.ofNat (97 + i)]) rfl rfl rfl (by first | omega | (simp only [List.length_append, List.length_cons, List.length_nil, List.length_take, List.length_drop] at *; omega))) rfl rfl rfl rfl ?_
      refine J.de rfl (op_call rfl rfl ent12 (Ct.use0 (fun F' hF => key20_ct F' (UInt8.ofNat i) ((1 : Nat) : Int)))) rfl rfl rfl (by simp) ?_
      intro g42 _
      refine J.dy rfl (op_buildStruct (l := [(0, .tmp 39), (1, .tmp 42)]) (vs := [Str (([97]) ++ ([UInt8.ofNat (97 + i)])), .agg #[Str (keyO (UInt8.ofNat i)), Str (z16), I (((1 : Nat) : Int))]]) (places := [(0, 1), (1, 3)]) (r := [Str (([97]) ++ ([UInt8.ofNat (97 + i)])), Str (keyO (UInt8.ofNat i)), Str (z16), I (((1 : Nat) : Int))]) rfl rfl rfl Tryd.underlying35 Tryd.zeroValue35 (fun _ => by kernel_rfl) rfl) rfl rfl rfl rfl ?_
      refine J.de rfl (op_call rfl rfl ent11 (Ct.use1 1 (m' := fun x : Hp => x) (new := fun _ => []) rfl (fun F' hF => radd_ct F' mo g23 (audL i) hb (hA.mono (hF F (by simp))) (hT.mono (hF F (by simp))) (([97]) ++ ([UInt8.ofNat (97 + i)])) (keyO (UInt8.ofNat i)) z16 ((1 : Nat) : Int) (by first | omega | exact Nat.le_of_ble_eq_true rfl | (rw [List.length_map]; omega)) (by first | omega | exact Nat.le_of_ble_eq_true rfl | (rw [List.length_map]; omega)) (by first | omega | exact Nat.le_of_ble_eq_true rfl | (rw [List.length_map]; omega)) (by first | omega | exact Nat.le_of_ble_eq_true rfl | (rw [List.length_map]; omega))))) rfl rfl rfl (by simp) ?_
      rintro m44 h44
      change J _ ((44, .tuple #[I (addNo (audL i) (([97]) ++ ([UInt8.ofNat (97 + i)])) (keyO (UInt8.ofNat i)) z16 ((1 : Nat) : Int)), I (addE (audL i) (([97]) ++ ([UInt8.ofNat (97 + i)])) (keyO (UInt8.ofNat i)) z16 ((1 : Nat) : Int))]) :: _) _ [F, m44, m24, blk g37 [B8 (UInt8.ofNat (97 + i))] 5] _
      replace h44 := (congrArg (Rost m44 g23) (addL_a (i := i) (by omega))).mp h44
      refine J.dnil ?_
      refine J.blk_n ?_
      refine J.then_n (J.k hK11 ?_)
      refine J.keepE [(1, _), (5, _), (6, _), (7, _), (8, _)] ⟨rfl, rfl, rfl, rfl, rfl, trivial⟩ ?_
      refine J.region ?_
      refine J.y (op_move rfl rfl) rfl rfl rfl ?_
      refine J.y ((op_add rfl rfl rfl (by first | omega | (simp only [List.length_append, List.length_cons, List.length_nil, List.length_take, List.length_drop] at *; omega))).as (v' := I ((i + 1 : Nat) : Int)) (congrArg I (by omega))) rfl rfl rfl ?_
      refine J.y (op_assign rfl rfl) rfl rfl rfl ?_
      refine J.nil ?_
      refine J.then_n ?_
      exact J.kk (i + 1, m44) (fun η (hη : _ ∧ C - η.1 < C - i) => hI0 η hη.1 hη.2) ⟨⟨by dsimp only; omega, h44⟩, by dsimp only; omega⟩ ⟨rfl, rfl, rfl, rfl, rfl, trivial⟩ (fun _ h => h.pick [0, 1, 2] (by decide))
    ·
      refine J.de rfl (op_call rfl rfl ent12 (Ct.use0 (fun F' hF => key20_ct F' (UInt8.ofNat i) ((1 : Nat) : Int)))) rfl rfl rfl (by simp) ?_
      intro g42 _
      refine J.deN (fun g => _ ++ [blk g [B8 (UInt8.ofNat (97 + i))] 5]) rfl (op_buildSlice (l := [.tmp 36]) (xs := [[B8 (UInt8.ofNat (97 + i))]]) rfl rfl rfl rfl Tryd.underlying30 el5 rfl (by decide) (by decide) (by simp)) rfl rfl rfl (fun _ _ h => List.mem_append_left _ h) (by simp) ?_
      intro g37 _
      change J _ _ _ [F, mo, m24, blk g37 [B8 (UInt8.ofNat (97 + i))] 5] _
      refine J.dy rfl (op_toStr (l := [UInt8.ofNat (97 + i)]) rfl rfl Tryd.underlying30 Tryd.underlying5 Tryd.underlying9 (m := blk g37 [B8 (UInt8.ofNat (97 + i))] 5) (by simp) ((row_lit (q := True) (bytesV [UInt8.ofNat (97 + i)]) rfl (by simp [bytesV]) rfl).sl)) rfl rfl rfl rfl ?_
      refine J.dy rfl (op_sadd (a := [97]) (b := [UInt8.ofNat (97 + i)]) rfl rfl rfl (by first | omega | (simp only [List.length_append, List.length_cons, List.length_nil, List.length_take, List.length_drop] at *; omega))) rfl rfl rfl rfl ?_
      refine J.dy rfl (op_buildStruct (l := [(0, .tmp 39), (1, .tmp 42)]) (vs := [Str (([97]) ++ ([UInt8.ofNat (97 + i)])), .agg #[Str (keyO (UInt8.ofNat i)), Str (z16), I (((1 : Nat) : Int))]]) (places := [(0, 1), (1, 3)]) (r := [Str (([97]) ++ ([UInt8.ofNat (97 + i)])), Str (keyO (UInt8.ofNat i)), Str (z16), I (((1 : Nat) : Int))]) rfl rfl rfl Tryd.underlying35 Tryd.zeroValue35 (fun _ => by kernel_rfl) rfl) rfl rfl rfl rfl ?_
      refine J.de rfl (op_call rfl rfl ent11 (Ct.use1 1 (m' := fun x : Hp => x) (new := fun _ => []) rfl (fun F' hF => radd_ct F' mo g23 (audL i) hb (hA.mono (hF F (by simp))) (hT.mono (hF F (by simp))) (([97]) ++ ([UInt8.ofNat (97 + i)])) (keyO (UInt8.ofNat i)) z16 ((1 : Nat) : Int) (by first | omega | exact Nat.le_of_ble_eq_true rfl | (rw [List.length_map]; omega)) (by first | omega | exact Nat.le_of_ble_eq_true rfl | (rw [List.length_map]; omega)) (by first | omega | exact Nat.le_of_ble_eq_true rfl | (rw [List.length_map]; omega)) (by first | omega | exact Nat.le_of_ble_eq_true rfl | (rw [List.length_map]; omega))))) rfl rfl rfl (by simp) ?_
      rintro m44 h44
      change J _ ((44, .tuple #[I (addNo (audL i) (([97]) ++ ([UInt8.ofNat (97 + i)])) (keyO (UInt8.ofNat i)) z16 ((1 : Nat) : Int)), I (addE (audL i) (([97]) ++ ([UInt8.ofNat (97 + i)])) (keyO (UInt8.ofNat i)) z16 ((1 : Nat) : Int))]) :: _) _ [F, m44, m24, blk g37 [B8 (UInt8.ofNat (97 + i))] 5] _
      replace h44 := (congrArg (Rost m44 g23) (addL_a (i := i) (by omega))).mp h44
      refine J.dnil ?_
      refine J.blk_n ?_
      refine J.then_n (J.k hK11 ?_)
      refine J.keepE [(1, _), (5, _), (6, _), (7, _), (8, _)] ⟨rfl, rfl, rfl, rfl, rfl, trivial⟩ ?_
      refine J.region ?_
      refine J.y (op_move rfl rfl) rfl rfl rfl ?_
      refine J.y ((op_add rfl rfl rfl (by first | omega | (simp only [List.length_append, List.length_cons, List.length_nil, List.length_take, List.length_drop] at *; omega))).as (v' := I ((i + 1 : Nat) : Int)) (congrArg I (by omega))) rfl rfl rfl ?_
      refine J.y (op_assign rfl rfl) rfl rfl rfl ?_
      refine J.nil ?_
      refine J.then_n ?_
      exact J.kk (i + 1, m44) (fun η (hη : _ ∧ C - η.1 < C - i) => hI0 η hη.1 hη.2) ⟨⟨by dsimp only; omega, h44⟩, by dsimp only; omega⟩ ⟨rfl, rfl, rfl, rfl, rfl, trivial⟩ (fun _ h => h.pick [0, 1, 2] (by decide))
  ·
    refine J.exit ?_
    refine J.then_x ?_
    refine J.then_x ?_
    refine J.blk_eq ?_
    refine J.then_n (J.k hK7 ?_)
    refine J.keepE [(1, _), (5, _), (6, _), (7, _)] ⟨rfl, rfl, rfl, rfl, trivial⟩ ?_
    refine J.seq (fun K12 hK12 => ?_)
    obtain rfl : C = i := by omega
    obtain ⟨A3, n3, c3, hcA, hsA, hnA⟩ := hb.see
    have hal := audL_len C
    refine J.region ?_
    refine J.y (op_move rfl rfl) rfl rfl rfl ?_
    refine J.e (op_call rfl rfl ent13 (Ct.use (new := fun x : Nat × Hp => [x.2]) (fun F' hF => Ct.swap2 (rcopy_ct F' g23 A3 n3 c3 (audL C) (hsA.mono (hF mo (by simp))) (by omega) (hcA.mono (hF mo (by simp))))))) rfl rfl rfl ?_
    rintro ⟨g46, m46⟩ h46
    try dsimp only at h46
    change J _ ((46, Ptr g46) :: _) _ [F, mo, m24, m46] _
    refine J.y (op_assign rfl rfl) rfl rfl rfl ?_
    refine J.nil ?_
    refine J.then_n (J.k hK12 ?_)
    refine J.keepE [(1, _), (5, _), (6, _), (7, _), (9, _)] ⟨rfl, rfl, rfl, rfl, rfl, trivial⟩ ?_
    refine J.seq (fun K13 hK13 => ?_)
    refine J.region ?_
    refine J.y (op_move rfl rfl) rfl rfl rfl ?_
    refine J.e (op_call rfl rfl ent12 (Ct.use0 (fun F' hF => key20_ct F' 200 ((1 : Nat) : Int)))) rfl rfl rfl ?_
    intro g48 _
    refine J.y (op_buildStruct (l := [(0, .const ((Value.string (ByteArray.mk #[122, 122])))), (1, .tmp 48)]) (vs := [Str ([122, 122]), .agg #[Str (keyO 200), Str (z16), I (((1 : Nat) : Int))]]) (places := [(0, 1), (1, 3)]) (r := [Str ([122, 122]), Str (keyO 200), Str (z16), I (((1 : Nat) : Int))]) rfl rfl rfl Tryd.underlying35 Tryd.zeroValue35 (fun _ => by kernel_rfl) rfl) rfl rfl rfl ?_
    refine J.e (op_call rfl rfl ent11 (Ct.use1 3 (m' := fun x : Hp => x) (new := fun _ => []) rfl (fun F' hF => radd_ct F' m46 g46 (audL C) h46 (hA.mono (hF F (by simp))) (hT.mono (hF F (by simp))) ([122, 122]) (keyO 200) z16 ((1 : Nat) : Int) (by first | omega | exact Nat.le_of_ble_eq_true rfl | (rw [List.length_map]; omega)) (by first | omega | exact Nat.le_of_ble_eq_true rfl | (rw [List.length_map]; omega)) (by first | omega | exact Nat.le_of_ble_eq_true rfl | (rw [List.length_map]; omega)) (by first | omega | exact Nat.le_of_ble_eq_true rfl | (rw [List.length_map]; omega))))) rfl rfl rfl ?_
    rintro m50 h50
    change J _ ((50, .tuple #[I (addNo (audL C) ([122, 122]) (keyO 200) z16 ((1 : Nat) : Int)), I (addE (audL C) ([122, 122]) (keyO 200) z16 ((1 : Nat) : Int))]) :: _) _ [F, mo, m24, m50] _
    refine J.nil ?_
    refine J.then_n (J.k hK13 ?_)
    refine J.keepE [(1, _), (5, _), (6, _), (7, _), (9, _)] ⟨rfl, rfl, rfl, rfl, rfl, trivial⟩ ?_
    refine J.seq (fun K14 hK14 => ?_)
    refine J.seq (fun K15 hK15 => ?_)
    have hz : (addL (audL C) [122, 122] (keyO 200) z16 ((1 : Nat) : Int)).length = C + 1 := addL_z hC15
    refine J.region ?_
    refine J.y (op_move rfl rfl) rfl rfl rfl ?_
    refine J.y (op_move rfl rfl) rfl rfl rfl ?_
    refine J.e (op_call rfl rfl ent14 (Ct.use1 2 (m' := fun x : Hp => x) (new := fun _ => []) rfl (fun F' hF => rlay_ct F' m24 (hK.mono (hF F (by simp))) g23 A3 n3 c3 (audL C) (hsA.mono (hF mo (by simp))) (by omega) (hcA.mono (hF mo (by simp))) g24 [] h24 (audL_small C) (by omega)))) rfl rfl rfl ?_
    rintro m53 h53
    change J _ _ _ [F, mo, m53, m50] _
    rw [show n3 = C by omega] at h53
    have hll := layP_len (audL C) hC15
    refine J.y ((op_neq rfl rfl rfl).as (v' := .bool false) (congrArg Value.bool (decide_eq_false (by decide)))) rfl rfl rfl ?_
    refine J.y (op_move rfl rfl) rfl rfl rfl ?_
    refine J.yg (Wan.is rfl rfl rfl rfl rfl) (op_move rfl rfl) rfl rfl ?_
    refine J.eg (Wan.is rfl rfl rfl rfl rfl) (op_call rfl rfl ent15 (Ct.use0 (fun F' hF => tlen_ct F' g24 (layP [] (audL C) C) (h53.at.mono (hF m53 (by simp)))))) rfl rfl ?_
    intro g57 _
    refine J.yg (Wan.is rfl rfl rfl rfl rfl) (op_move rfl rfl) rfl rfl ?_
    refine J.yg (Wan.is rfl rfl rfl rfl rfl) ((op_neq rfl rfl rfl).as (v' := .bool false) (congrArg Value.bool (decide_eq_false (by omega)))) rfl rfl ?_
    refine J.y (op_pickF rfl rfl rfl) rfl rfl rfl ?_
    refine J.y (op_move rfl rfl) rfl rfl rfl ?_
    refine J.yg (Wan.is rfl rfl rfl rfl rfl) (op_move rfl rfl) rfl rfl ?_
    refine J.eg (Wan.is rfl rfl rfl rfl rfl) (op_call rfl rfl ent16 (Ct.use1 1 (m' := fun _ : Unit => mo) (new := fun _ => []) rfl (fun F' hF => rlen20_ct F' mo g23 (audL C) hb ))) rfl rfl ?_
    rintro _ _
    change J _ _ _ [F, mo, m53, m50] _
    refine J.yg (Wan.is rfl rfl rfl rfl rfl) (op_move rfl rfl) rfl rfl ?_
    refine J.yg (Wan.is rfl rfl rfl rfl rfl) ((op_neq rfl rfl rfl).as (v' := .bool false) (congrArg Value.bool (decide_eq_false (by omega)))) rfl rfl ?_
    refine J.y (op_pickF rfl rfl rfl) rfl rfl rfl ?_
    refine J.y (op_move rfl rfl) rfl rfl rfl ?_
    refine J.yg (Wan.is rfl rfl rfl rfl rfl) (op_move rfl rfl) rfl rfl ?_
    refine J.eg (Wan.is rfl rfl rfl rfl rfl) (op_call rfl rfl ent16 (Ct.use1 3 (m' := fun _ : Unit => m50) (new := fun _ => []) rfl (fun F' hF => rlen20_ct F' m50 g46 (addL (audL C) ([122, 122]) (keyO 200) z16 ((1 : Nat) : Int)) h50 ))) rfl rfl ?_
    rintro _ _
    change J _ _ _ [F, mo, m53, m50] _
    refine J.yg (Wan.is rfl rfl rfl rfl rfl) (op_move rfl rfl) rfl rfl ?_
    refine J.yg (Wan.is rfl rfl rfl rfl rfl) ((op_add rfl rfl rfl (by first | omega | (simp only [List.length_append, List.length_cons, List.length_nil, List.length_take, List.length_drop] at *; omega))).as (v' := I ((C + 1 : Nat) : Int)) (congrArg I (by omega))) rfl rfl ?_
    refine J.yg (Wan.is rfl rfl rfl rfl rfl) ((op_neq rfl rfl rfl).as (v' := .bool false) (congrArg Value.bool (decide_eq_false (by omega)))) rfl rfl ?_
    refine J.y (op_pickF rfl rfl rfl) rfl rfl rfl ?_
    refine J.nil ?_
    refine J.then_n (J.k hK15 ?_)
    refine J.keepE [(1, _), (5, _), (6, _), (7, _), (73, _)] ⟨rfl, rfl, rfl, rfl, rfl, trivial⟩ ?_
    refine J.condF rfl rfl ?_
    refine J.skip ?_
    refine J.then_n (J.k hK14 ?_)
    refine J.keepE [(1, _), (5, _), (6, _), (7, _)] ⟨rfl, rfl, rfl, rfl, trivial⟩ ?_
    refine J.seq (fun K16 hK16 => ?_)
    refine J.seq (fun K17 hK17 => ?_)
    refine J.region ?_
    refine J.y (op_assign rfl rfl) rfl rfl rfl ?_
    refine J.nil ?_
    refine J.then_n (J.k hK17 ?_)
    refine J.keepE [(1, _), (5, _), (6, _), (7, _), (10, _)] ⟨rfl, rfl, rfl, rfl, rfl, trivial⟩ ?_
    refine J.block ?_
    refine J.loop (X := Nat) (fun ζ => [(1, Str (lb)), (5, Ptr g23), (6, Ptr g24), (7, I ((C : Nat) : Int)), (10, I ((ζ : Nat) : Int))]) (fun ζ => [F, mo, m53, m50]) (fun ζ => ζ ≤ C) (fun ζ => C - ζ) 0 (Nat.zero_le _) ⟨rfl, rfl, rfl, rfl, rfl, trivial⟩ (fun _ h => h) ?_
    rintro j hj I2 hI2
    refine J.seq (fun K18 hK18 => ?_)
    refine J.seq (fun K19 hK19 => ?_)
    refine J.region ?_
    refine J.y (op_move rfl rfl) rfl rfl rfl ?_
    refine J.y (op_move rfl rfl) rfl rfl rfl ?_
    refine J.y (op_lss rfl rfl rfl) rfl rfl rfl ?_
    refine J.nil ?_
    refine J.then_n (J.k hK19 ?_)
    refine J.keepE [(1, _), (5, _), (6, _), (7, _), (10, _), (76, _)] ⟨rfl, rfl, rfl, rfl, rfl, rfl, trivial⟩ ?_
    refine J.ite rfl (fun h76 => ?_) (fun h76 => ?_)
    ·
      refine J.skip ?_
      refine J.then_n (J.k hK18 ?_)
      refine J.keepE [(1, _), (5, _), (6, _), (7, _), (10, _)] ⟨rfl, rfl, rfl, rfl, rfl, trivial⟩ ?_
      refine J.seq (fun K20 hK20 => ?_)
      refine J.block ?_
      refine J.seq (fun K21 hK21 => ?_)
      have hk1 : (keyO (UInt8.ofNat j)).length ≤ 1048576 := Nat.le_of_ble_eq_true rfl
      have hk2 : z16.length ≤ 1048576 := Nat.le_of_ble_eq_true rfl
      refine J.region ?_
      refine J.y (op_move rfl rfl) rfl rfl rfl ?_
      refine J.y (op_cv_i64_u8 (m := j) rfl rfl Tryd.underlying3 Tryd.underlying5) rfl rfl rfl ?_
      refine J.e (op_call rfl rfl ent12 (Ct.use0 (fun F' hF => key20_ct F' (UInt8.ofNat j) ((1 : Nat) : Int)))) rfl rfl rfl ?_
      intro g82 _
      refine J.e (op_call rfl rfl ent17 (Ct.use0 (fun F' hF => pencode_ct F' (keyO (UInt8.ofNat j)) z16 ((1 : Nat) : Int) (by omega) (by omega)))) rfl rfl rfl ?_
      intro g83 _
      refine J.y (op_move rfl rfl) rfl rfl rfl ?_
      refine J.y (op_extract (v := Str (pubEnc (keyO (UInt8.ofNat j)) z16 ((1 : Nat) : Int))) rfl rfl rfl) rfl rfl rfl ?_
      refine J.y (op_extract (v := I (pubErr (keyO (UInt8.ofNat j)) z16 ((1 : Nat) : Int))) rfl rfl rfl) rfl rfl rfl ?_
      refine J.y (op_assign rfl rfl) rfl rfl rfl ?_
      refine J.y (op_assign rfl rfl) rfl rfl rfl ?_
      refine J.nil ?_
      refine J.then_n (J.k hK21 ?_)
      refine J.keepE [(1, _), (5, _), (6, _), (7, _), (10, _), (11, _)] ⟨rfl, rfl, rfl, rfl, rfl, rfl, trivial⟩ ?_
      refine J.seq (fun K22 hK22 => ?_)
      refine J.region ?_
      refine J.y (op_move rfl rfl) rfl rfl rfl ?_
      refine J.y (op_move rfl rfl) rfl rfl rfl ?_
      refine J.e (op_call rfl rfl ent19 (Ct.use0 (fun F' hF => place20r_ct F' j (by omega)))) rfl rfl rfl ?_
      intro g89 _
      refine J.e (op_call rfl rfl ent18 (Ct.use0 (fun F' hF => tget_ct F' g24 (layP [] (audL C) C) (h53.at.mono (hF m53 (by simp))) (placeK j)))) rfl rfl rfl ?_
      intro g90 _
      refine J.y (op_move rfl rfl) rfl rfl rfl ?_
      refine J.y (op_extract (v := Str ((Sm.getP (layP [] (audL C) C) (placeK j)).getD [])) rfl rfl rfl) rfl rfl rfl ?_
      refine J.y (op_extract (v := .bool ((Sm.getP (layP [] (audL C) C) (placeK j)).isSome)) rfl rfl rfl) rfl rfl rfl ?_
      refine J.y (op_assign rfl rfl) rfl rfl rfl ?_
      refine J.y (op_assign rfl rfl) rfl rfl rfl ?_
      refine J.nil ?_
      refine J.then_n (J.k hK22 ?_)
      refine J.keepE [(1, _), (5, _), (6, _), (7, _), (10, _), (11, _), (13, _), (14, _)] ⟨rfl, rfl, rfl, rfl, rfl, rfl, rfl, rfl, trivial⟩ ?_
      refine J.seq (fun K23 hK23 => ?_)
      have hgt := layA_get hC15 (j := j) (by omega)
      have hvl := audA_val j
      have hpe : pubErr (keyO (UInt8.ofNat j)) z16 ((1 : Nat) : Int) = 0 := audA_err j
      have hpl := pubEnc_len hpe
      refine J.region ?_
      refine J.y (op_move rfl rfl) rfl rfl rfl ?_
      refine J.y ((op_not rfl rfl).as (v' := .bool false) (by rw [hgt]; rfl)) rfl rfl rfl ?_
      refine J.y (op_move rfl rfl) rfl rfl rfl ?_
      refine J.yg (Wan.is rfl rfl rfl rfl rfl) (op_move rfl rfl) rfl rfl ?_
      refine J.yg (Wan.is rfl rfl rfl rfl rfl) (op_move rfl rfl) rfl rfl ?_
      refine J.yg (Wan.is rfl rfl rfl rfl rfl) ((op_add rfl rfl rfl (by first | omega | (simp only [List.length_append, List.length_cons, List.length_nil, List.length_take, List.length_drop] at *; omega))).as (v' := I ((97 + j : Nat) : Int)) (congrArg I (by omega))) rfl rfl ?_
      refine J.yg (Wan.is rfl rfl rfl rfl rfl) (op_cv_i64_u8 (m := 97 + j) rfl rfl Tryd.underlying3 Tryd.underlying5) rfl rfl ?_
      refine J.eg (Wan.is rfl rfl rfl rfl rfl) (op_buildSlice (l := [.tmp 99]) (xs := [[B8 (UInt8.ofNat (97 + j))]]) rfl rfl rfl rfl Tryd.underlying30 el5 rfl (by decide) (by decide) (by simp)) rfl rfl ?_
      intro g100 _
      change J _ _ _ [F, mo, m53, m50, blk g100 [B8 (UInt8.ofNat (97 + j))] 5] _
      refine J.yg (Wan.is rfl rfl rfl rfl rfl) (op_toStr (l := [UInt8.ofNat (97 + j)]) rfl rfl Tryd.underlying30 Tryd.underlying5 Tryd.underlying9 (m := blk g100 [B8 (UInt8.ofNat (97 + j))] 5) (by simp) ((row_lit (q := True) (bytesV [UInt8.ofNat (97 + j)]) rfl (by simp [bytesV]) rfl).sl)) rfl rfl ?_
      refine J.yg (Wan.is rfl rfl rfl rfl rfl) (op_sadd (a := [97]) (b := [UInt8.ofNat (97 + j)]) rfl rfl rfl (by first | omega | (simp only [List.length_append, List.length_cons, List.length_nil, List.length_take, List.length_drop] at *; omega))) rfl rfl ?_
      refine J.yg (Wan.is rfl rfl rfl rfl rfl) (op_move rfl rfl) rfl rfl ?_
      refine J.eg (Wan.is rfl rfl rfl rfl rfl) (op_call rfl rfl ent20 (Ct.use0 (fun F' hF => value20r_ct F' (([97]) ++ ([UInt8.ofNat (97 + j)])) (pubEnc (keyO (UInt8.ofNat j)) z16 ((1 : Nat) : Int)) (by first | omega | exact Nat.le_of_ble_eq_true rfl) (by omega)))) rfl rfl ?_
      intro g104 _
      refine J.yg (Wan.is rfl rfl rfl rfl rfl) ((op_sne rfl rfl rfl).as (v' := .bool false) (congrArg Value.bool (decide_eq_false (fun h => h (by rw [hgt]; show audV (audA j) = _; rw [hvl]; rfl))))) rfl rfl ?_
      refine J.y (op_pickF rfl rfl rfl) rfl rfl rfl ?_
      refine J.y (op_move rfl rfl) rfl rfl rfl ?_
      refine J.yg (Wan.is rfl rfl rfl rfl rfl) (op_move rfl rfl) rfl rfl ?_
      refine J.eg (Wan.is rfl rfl rfl rfl rfl) (op_call rfl rfl ent21 (Ct.use0 (fun F' hF => place20_ct F' (hK.mono (hF F (by simp))) j (by omega)))) rfl rfl ?_
      intro g109 _
      refine J.yg (Wan.is rfl rfl rfl rfl rfl) (op_move rfl rfl) rfl rfl ?_
      refine J.eg (Wan.is rfl rfl rfl rfl rfl) (op_call rfl rfl ent19 (Ct.use0 (fun F' hF => place20r_ct F' j (by omega)))) rfl rfl ?_
      intro g111 _
      refine J.yg (Wan.is rfl rfl rfl rfl rfl) ((op_sne rfl rfl rfl).as (v' := .bool false) (congrArg Value.bool (decide_eq_false (fun h => h rfl)))) rfl rfl ?_
      refine J.y (op_pickF rfl rfl rfl) rfl rfl rfl ?_
      refine J.nil ?_
      refine J.then_n (J.k hK23 ?_)
      refine J.keepE [(1, _), (5, _), (6, _), (7, _), (10, _), (113, _)] ⟨rfl, rfl, rfl, rfl, rfl, rfl, trivial⟩ ?_
      refine J.condF rfl rfl ?_
      refine J.skip ?_
      refine J.blk_n ?_
      refine J.then_n (J.k hK20 ?_)
      refine J.keepE [(1, _), (5, _), (6, _), (7, _), (10, _)] ⟨rfl, rfl, rfl, rfl, rfl, trivial⟩ ?_
      refine J.region ?_
      refine J.y (op_move rfl rfl) rfl rfl rfl ?_
      refine J.y ((op_add rfl rfl rfl (by first | omega | (simp only [List.length_append, List.length_cons, List.length_nil, List.length_take, List.length_drop] at *; omega))).as (v' := I ((j + 1 : Nat) : Int)) (congrArg I (by omega))) rfl rfl rfl ?_
      refine J.y (op_assign rfl rfl) rfl rfl rfl ?_
      refine J.nil ?_
      refine J.then_n ?_
      exact J.kk (j + 1) (fun η (hη : _ ∧ C - η < C - j) => hI2 η hη.1 hη.2) ⟨(by omega), by first | omega | (dsimp only; omega)⟩ ⟨rfl, rfl, rfl, rfl, rfl, trivial⟩ (fun _ h => h.pick [0, 1, 2, 3] (by decide))
    ·
      refine J.exit ?_
      refine J.then_x ?_
      refine J.then_x ?_
      refine J.blk_eq ?_
      refine J.then_n (J.k hK16 ?_)
      refine J.keepE [(1, _), (5, _), (6, _)] ⟨rfl, rfl, rfl, trivial⟩ ?_
      refine J.seq (fun K24 hK24 => ?_)
      refine J.region ?_
      refine J.y (op_assign rfl rfl) rfl rfl rfl ?_
      refine J.nil ?_
      refine J.then_n (J.k hK24 ?_)
      refine J.keepE [(1, _), (5, _), (6, _), (15, _)] ⟨rfl, rfl, rfl, rfl, trivial⟩ ?_
      refine J.seq (fun K25 hK25 => ?_)
      refine J.region ?_
      refine J.y (op_move rfl rfl) rfl rfl rfl ?_
      refine J.y (op_buildStruct (l := [(0, .const ((Value.string (ByteArray.mk #[97]))))]) (vs := [Str ([97])]) (places := [(0, 1), (1, 3)]) (r := [Str ([97]), Str [], Str [], I 0]) rfl rfl rfl Tryd.underlying35 Tryd.zeroValue35 (fun _ => by kernel_rfl) rfl) rfl rfl rfl ?_
      refine J.e (op_call rfl rfl ent11 (Ct.use0 (fun F' hF => raddN_ct F' ([97]) ([]) ([]) ((0 : Nat) : Int)))) rfl rfl rfl ?_
      intro g117 _
      refine J.y (op_move rfl rfl) rfl rfl rfl ?_
      refine J.y (op_extract (v := I ((0 : Nat) : Int)) rfl rfl rfl) rfl rfl rfl ?_
      refine J.y (op_extract (v := I ((1 : Nat) : Int)) rfl rfl rfl) rfl rfl rfl ?_
      refine J.y (op_assign rfl rfl) rfl rfl rfl ?_
      refine J.y (op_assign rfl rfl) rfl rfl rfl ?_
      refine J.nil ?_
      refine J.then_n (J.k hK25 ?_)
      refine J.keepE [(1, _), (5, _), (6, _), (15, _), (17, _)] ⟨rfl, rfl, rfl, rfl, rfl, trivial⟩ ?_
      refine J.seq (fun K26 hK26 => ?_)
      refine J.region ?_
      refine J.y (op_move rfl rfl) rfl rfl rfl ?_
      refine J.e (op_call rfl rfl ent22 (Ct.use0 (fun F' hF => ratN_ct F' ))) rfl rfl rfl ?_
      intro g122 _
      refine J.y (op_move rfl rfl) rfl rfl rfl ?_
      refine J.y (op_extract (v := .agg #[Str [], Str [], Str [], I 0]) rfl rfl rfl) rfl rfl rfl ?_
      refine J.y (op_extract (v := I ((20 : Nat) : Int)) rfl rfl rfl) rfl rfl rfl ?_
      refine J.e (op_alloc (l := [Str [], Str [], Str [], I 0]) rfl Tryd.zeroValue35 rfl) rfl rfl rfl ?_
      intro g18 _
      change J _ _ _ [F, mo, m53, m50, blk g18 [Str [], Str [], Str [], I 0] 35] _
      refine J.s (op_storeAll (i := 4) (l := [Str [], Str [], Str [], I 0]) (vs := [Str [], Str [], Str [], I 0]) rfl rfl rfl rfl rfl Tryd.sizeOf35 rfl rfl) rfl rfl (fun _ _ => ?_)
      change J _ _ _ [F, mo, m53, m50, blk g18 [Str [], Str [], Str [], I 0] 35] _
      refine J.y (op_assign rfl rfl) rfl rfl rfl ?_
      refine J.nil ?_
      refine J.then_n (J.k hK26 ?_)
      refine J.keepE [(1, _), (5, _), (6, _), (15, _), (17, _), (19, _)] ⟨rfl, rfl, rfl, rfl, rfl, rfl, trivial⟩ ?_
      refine J.seq (fun K27 hK27 => ?_)
      have hbe : pubErr (keyO 1) z16 ((7 : Nat) : Int) ≠ 0 := by rw [key_err]; decide
      refine J.region ?_
      refine J.y (op_move rfl rfl) rfl rfl rfl ?_
      refine J.e (op_call rfl rfl ent12 (Ct.use0 (fun F' hF => key20_ct F' 1 ((7 : Nat) : Int)))) rfl rfl rfl ?_
      intro g126 _
      refine J.y (op_buildStruct (l := [(0, .tmp 125), (1, .tmp 126)]) (vs := [Str (lb), .agg #[Str (keyO 1), Str (z16), I (((7 : Nat) : Int))]]) (places := [(0, 1), (1, 3)]) (r := [Str (lb), Str (keyO 1), Str (z16), I (((7 : Nat) : Int))]) rfl rfl rfl Tryd.underlying35 Tryd.zeroValue35 (fun _ => by kernel_rfl) rfl) rfl rfl rfl ?_
      refine J.e (op_alloc (l := [Str [], Str [], Str [], I 0]) rfl Tryd.zeroValue35 rfl) rfl rfl rfl ?_
      intro g20 _
      change J _ _ _ [F, mo, m53, m50, blk g18 [Str [], Str [], Str [], I 0] 35, blk g20 [Str [], Str [], Str [], I 0] 35] _
      refine J.s (op_storeAll (i := 5) (l := [Str [], Str [], Str [], I 0]) (vs := [Str (lb), Str (keyO 1), Str (z16), I (((7 : Nat) : Int))]) rfl rfl rfl rfl rfl Tryd.sizeOf35 rfl rfl) rfl rfl (fun _ _ => ?_)
      change J _ _ _ [F, mo, m53, m50, blk g18 [Str [], Str [], Str [], I 0] 35, blk g20 [Str (lb), Str (keyO 1), Str (z16), I (((7 : Nat) : Int))] 35] _
      refine J.nil ?_
      refine J.then_n (J.k hK27 ?_)
      refine J.keepE [(5, _), (6, _), (15, _), (17, _), (19, _), (20, _)] ⟨rfl, rfl, rfl, rfl, rfl, rfl, trivial⟩ ?_
      refine J.seq (fun K28 hK28 => ?_)
      refine J.region ?_
      refine J.y (op_move rfl rfl) rfl rfl rfl ?_
      refine J.y ((op_eql rfl rfl rfl).as (v' := .bool true) (congrArg Value.bool (decide_eq_true (by decide)))) rfl rfl rfl ?_
      refine J.y (op_move rfl rfl) rfl rfl rfl ?_
      refine J.yg (Wan.is rfl rfl rfl rfl rfl) (op_move rfl rfl) rfl rfl ?_
      refine J.yg (Wan.is rfl rfl rfl rfl rfl) ((op_eql rfl rfl rfl).as (v' := .bool true) (congrArg Value.bool (decide_eq_true (by decide)))) rfl rfl ?_
      refine J.y (op_pickT rfl rfl rfl) rfl rfl rfl ?_
      refine J.y (op_move rfl rfl) rfl rfl rfl ?_
      refine J.yg (Wan.is rfl rfl rfl rfl rfl) (op_move rfl rfl) rfl rfl ?_
      refine J.eg (Wan.is rfl rfl rfl rfl rfl) (op_call rfl rfl ent16 (Ct.use0 (fun F' hF => rlenN_ct F' ))) rfl rfl ?_
      intro g136 _
      refine J.yg (Wan.is rfl rfl rfl rfl rfl) ((op_eql rfl rfl rfl).as (v' := .bool true) (congrArg Value.bool (decide_eq_true (by decide)))) rfl rfl ?_
      refine J.y (op_pickT rfl rfl rfl) rfl rfl rfl ?_
      refine J.y (op_move rfl rfl) rfl rfl rfl ?_
      refine J.yg (Wan.is rfl rfl rfl rfl rfl) (op_move rfl rfl) rfl rfl ?_
      refine J.eg (Wan.is rfl rfl rfl rfl rfl) (op_call rfl rfl ent13 (Ct.use0 (fun F' hF => rcopyN_ct F' ))) rfl rfl ?_
      intro g141 _
      refine J.yg (Wan.is rfl rfl rfl rfl rfl) ((op_peq Tryd.underlying23 rfl rfl rfl).as (v' := .bool true) rfl) rfl rfl ?_
      refine J.y (op_pickT rfl rfl rfl) rfl rfl rfl ?_
      refine J.y (op_move rfl rfl) rfl rfl rfl ?_
      refine J.yg (Wan.is rfl rfl rfl rfl rfl) (op_move rfl rfl) rfl rfl ?_
      refine J.yg (Wan.is rfl rfl rfl rfl rfl) (op_move rfl rfl) rfl rfl ?_
      refine J.eg (Wan.is rfl rfl rfl rfl rfl) (op_call rfl rfl ent14 (Ct.use0 (fun F' hF => rlayN_ct F' g24))) rfl rfl ?_
      intro g147 _
      refine J.yg (Wan.is rfl rfl rfl rfl rfl) ((op_eql rfl rfl rfl).as (v' := .bool true) (congrArg Value.bool (decide_eq_true (by decide)))) rfl rfl ?_
      refine J.y (op_pickT rfl rfl rfl) rfl rfl rfl ?_
      refine J.y (op_move rfl rfl) rfl rfl rfl ?_
      refine J.yg (Wan.is rfl rfl rfl rfl rfl) (op_move rfl rfl) rfl rfl ?_
      refine J.eg (Wan.is rfl rfl rfl rfl rfl) (op_call rfl rfl ent14 (Ct.use0 (fun F' hF => rlayM_ct F' g23))) rfl rfl ?_
      intro g152 _
      refine J.yg (Wan.is rfl rfl rfl rfl rfl) ((op_eql rfl rfl rfl).as (v' := .bool true) (congrArg Value.bool (decide_eq_true (by decide)))) rfl rfl ?_
      refine J.y (op_pickT rfl rfl rfl) rfl rfl rfl ?_
      refine J.y (op_move rfl rfl) rfl rfl rfl ?_
      refine J.yg (Wan.is rfl rfl rfl rfl rfl) (op_loadBA 5 rfl rfl rfl Tryd.isAgg35 Tryd.sizeOf35 rfl) rfl rfl ?_
      refine J.eg (Wan.is rfl rfl rfl rfl rfl) (op_call rfl rfl ent23 (Ct.use0 (fun F' hF => avalE_ct F' (hK.mono (hF F (by simp))) lb (keyO 1) z16 ((7 : Nat) : Int) (Nat.le_of_ble_eq_true rfl) (Nat.le_of_ble_eq_true rfl) hbe))) rfl rfl ?_
      intro g157 _
      refine J.yg (Wan.is rfl rfl rfl rfl rfl) ((op_seq rfl rfl rfl).as (v' := .bool true) (congrArg Value.bool (decide_eq_true (rfl)))) rfl rfl ?_
      refine J.y (op_pickT rfl rfl rfl) rfl rfl rfl ?_
      refine J.y (op_assign rfl rfl) rfl rfl rfl ?_
      refine J.nil ?_
      refine J.then_n (J.k hK28 ?_)
      refine J.keepE [(4, _)] ⟨rfl, trivial⟩ ?_
      refine J.ret ?_
      exact J.done hw0 (fun _ _ h => h) (res1 rfl rfl) (retOk () rfl trivial [0] rfl (by decide))

end Go.Proofs.YtnkfapecbmmpeaaDoor
