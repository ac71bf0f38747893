/- A part of the proof: contracts of functions of the program, each for every state of the heaps that it names. -/
import Derived.Test.YtpcffgkmpmcobaaDoorRfr
set_option linter.unusedSimpArgs false
set_option linter.unusedVariables false
namespace Go.Proofs.YtpcffgkmpmcobaaDoor
open Go Go.Fw
set_option maxRecDepth 100000
set_option maxHeartbeats 1000000
theorem ent18 : Enters Tryd.prog 18 := Enters.of Tryd.func18 rfl (by kernel_rfl)
theorem ent22 : Enters Tryd.prog 22 := Enters.of Tryd.func22 rfl (by kernel_rfl)

theorem whyr_ct (F : Hp) (s : List UInt8) (hs : s.length ≤ 1000000) : Ct Tryd.prog 17 [Str (s)] [F] (fun _ : Unit => I ((whyN s : Nat) : Int)) (fun _ => True) (fun _ => [F]) := by
  have hrs := rlo_le s
  refine Ct.walk Tryd.func17 rfl Tryd.ntmps17 rfl (fun w0 hw0 => ?_)
  change J _ [(0, _)] _ _ _
  refine J.seq (fun K1 hK1 => ?_)
  refine J.region ?_
  refine J.y (op_assign rfl rfl) rfl rfl rfl ?_
  refine J.nil ?_
  refine J.then_n (J.k hK1 ?_)
  refine J.keepE [(0, _)] ⟨rfl, trivial⟩ ?_
  refine J.seq (fun K2 hK2 => ?_)
  refine J.region ?_
  refine J.y (op_move rfl rfl) rfl rfl rfl ?_
  refine J.e (op_call rfl rfl ent18 (Ct.use (new := fun x : Option Addr × Nat × Hp => [x.2.2]) (fun F' hF => runesr_ct F' s (by omega)))) rfl rfl rfl ?_
  rintro ⟨A12, c12, m12⟩ h12
  try dsimp only at h12
  change J _ ((12, .tuple #[.slice A12 (rlo s).length c12, .bool (vld s)]) :: _) _ [F, m12] _
  refine J.y (op_move rfl rfl) rfl rfl rfl ?_
  refine J.y (op_extract (v := .slice A12 ((rlo s).length) c12) rfl rfl rfl) rfl rfl rfl ?_
  refine J.y (op_extract (v := .bool (vld s)) rfl rfl rfl) rfl rfl rfl ?_
  refine J.y (op_assign rfl rfl) rfl rfl rfl ?_
  refine J.y (op_assign rfl rfl) rfl rfl rfl ?_
  refine J.nil ?_
  refine J.then_n (J.k hK2 ?_)
  refine J.keepE [(3, _), (4, _)] ⟨rfl, rfl, trivial⟩ ?_
  refine J.seq (fun K3 hK3 => ?_)
  refine J.seq (fun K4 hK4 => ?_)
  refine J.region ?_
  refine J.y (op_move rfl rfl) rfl rfl rfl ?_
  refine J.y (op_not rfl rfl) rfl rfl rfl ?_
  refine J.nil ?_
  refine J.then_n (J.k hK4 ?_)
  refine J.keepE [(3, _), (16, _)] ⟨rfl, rfl, trivial⟩ ?_
  refine J.cond rfl (fun h16 => ?_) (fun h16 => ?_)
  ·
    refine J.seq (fun K5 hK5 => ?_)
    refine J.region ?_
    refine J.y (op_assign rfl rfl) rfl rfl rfl ?_
    refine J.nil ?_
    refine J.then_n (J.k hK5 ?_)
    refine J.keepE [(2, _)] ⟨rfl, trivial⟩ ?_
    refine J.ret ?_
    refine J.then_r ?_
    exact J.done hw0 (fun _ _ h => h) (res1 rfl rfl) (retOk () (by unfold whyN; rw [if_neg (by simpa using h16)]; rfl) trivial [0] rfl (by decide))
  ·
    refine J.skip ?_
    refine J.then_n (J.k hK3 ?_)
    refine J.keepE [(3, _)] ⟨rfl, trivial⟩ ?_
    refine J.seq (fun K6 hK6 => ?_)
    refine J.seq (fun K7 hK7 => ?_)
    have hv : vld s = true := by simpa using h16
    have hro : rlo s = rl s := by unfold rlo; rw [if_pos hv]
    refine J.region ?_
    refine J.y (op_move rfl rfl) rfl rfl rfl ?_
    refine J.y (op_len Tryd.underlying27 rfl rfl) rfl rfl rfl ?_
    refine J.y (op_gtr rfl rfl rfl) rfl rfl rfl ?_
    refine J.nil ?_
    refine J.then_n (J.k hK7 ?_)
    refine J.keepE [(3, _), (19, _)] ⟨rfl, rfl, trivial⟩ ?_
    refine J.ite rfl (fun h19 => ?_) (fun h19 => ?_)
    ·
      refine J.seq (fun K8 hK8 => ?_)
      refine J.region ?_
      refine J.y (op_assign rfl rfl) rfl rfl rfl ?_
      refine J.nil ?_
      refine J.then_n (J.k hK8 ?_)
      refine J.keepE [(2, _)] ⟨rfl, trivial⟩ ?_
      refine J.ret ?_
      refine J.then_r ?_
      exact J.done hw0 (fun _ _ h => h) (res1 rfl rfl) (retOk () (by unfold whyN; rw [if_pos hv, ← hro, if_neg (by omega)]; rfl) trivial [0] rfl (by decide))
    ·
      refine J.skip ?_
      refine J.then_n (J.k hK6 ?_)
      refine J.keepE [(3, _)] ⟨rfl, trivial⟩ ?_
      refine J.seq (fun K9 hK9 => ?_)
      have hwn : whyN s = if why5 0 0 false (rlo s) = true then 0 else 5 := by unfold whyN; rw [if_pos hv, ← hro, if_pos (by omega)]
      refine J.region ?_
      refine J.y (op_assign rfl rfl) rfl rfl rfl ?_
      refine J.y (op_assign rfl rfl) rfl rfl rfl ?_
      refine J.y (op_assign rfl rfl) rfl rfl rfl ?_
      refine J.nil ?_
      refine J.then_n (J.k hK9 ?_)
      refine J.keepE [(3, _), (5, _), (6, _), (7, _)] ⟨rfl, rfl, rfl, rfl, trivial⟩ ?_
      refine J.seq (fun K10 hK10 => ?_)
      refine J.seq (fun K11 hK11 => ?_)
      refine J.region ?_
      refine J.y (op_assign rfl rfl) rfl rfl rfl ?_
      refine J.nil ?_
      refine J.then_n (J.k hK11 ?_)
      refine J.keepE [(3, _), (5, _), (6, _), (7, _), (8, _)] ⟨rfl, rfl, rfl, rfl, rfl, trivial⟩ ?_
      refine J.block ?_
      refine J.loop (X := Nat × Nat × Nat × Bool) (fun ζ => [(3, .slice A12 ((rlo s).length) c12), (5, I ((ζ.2.1 : Nat) : Int)), (6, I ((ζ.2.2.1 : Nat) : Int)), (7, .bool (ζ.2.2.2)), (8, I ((ζ.1 : Nat) : Int))]) (fun ζ => [F, m12]) (fun ζ => whyI (rlo s) ζ.1 ζ.2.1 ζ.2.2.1 ζ.2.2.2 ∧ ζ.1 ≤ (rlo s).length + 1) (fun ζ => (rlo s).length + 1 - ζ.1) (0, 0, 0, false) (⟨⟨by decide, by decide, .inl ⟨Nat.zero_le _, rfl⟩⟩, by dsimp only; omega⟩) ⟨rfl, rfl, rfl, rfl, rfl, trivial⟩ (fun _ h => h) ?_
      rintro ⟨i, a, b, q⟩ ⟨hi, hin⟩ I0 hI0
      dsimp only at hi hin ⊢
      refine J.seq (fun K12 hK12 => ?_)
      refine J.seq (fun K13 hK13 => ?_)
      refine J.region ?_
      refine J.y (op_move rfl rfl) rfl rfl rfl ?_
      refine J.y (op_move rfl rfl) rfl rfl rfl ?_
      refine J.y (op_len Tryd.underlying27 rfl rfl) rfl rfl rfl ?_
      refine J.y (op_leq rfl rfl rfl) rfl rfl rfl ?_
      refine J.nil ?_
      refine J.then_n (J.k hK13 ?_)
      refine J.keepE [(3, _), (5, _), (6, _), (7, _), (8, _), (23, _)] ⟨rfl, rfl, rfl, rfl, rfl, rfl, trivial⟩ ?_
      refine J.ite rfl (fun h23 => ?_) (fun h23 => ?_)
      ·
        have hlt := rlo_lt s i
        have hi0 := hi
        obtain ⟨hi1, hi2, _⟩ := hi0
        refine J.skip ?_
        refine J.then_n (J.k hK12 ?_)
        refine J.keepE [(3, _), (5, _), (6, _), (7, _), (8, _)] ⟨rfl, rfl, rfl, rfl, rfl, trivial⟩ ?_
        refine J.seq (fun K14 hK14 => ?_)
        refine J.block ?_
        refine J.seq (fun K15 hK15 => ?_)
        refine J.seq (fun K16 hK16 => ?_)
        refine J.region ?_
        refine J.y (op_move rfl rfl) rfl rfl rfl ?_
        refine J.y (op_move rfl rfl) rfl rfl rfl ?_
        refine J.y (op_len Tryd.underlying27 rfl rfl) rfl rfl rfl ?_
        refine J.y (op_eql rfl rfl rfl) rfl rfl rfl ?_
        refine J.y (op_move rfl rfl) rfl rfl rfl ?_
        refine J.split (d := 30) rfl (fun h30 => ?_) (fun h30 => ?_)
        ·
          refine J.no (Wan.is rfl rfl rfl rfl rfl) rfl rfl ?_
          refine J.no (Wan.is rfl rfl rfl rfl rfl) rfl rfl ?_
          refine J.no (Wan.is rfl rfl rfl rfl rfl) rfl rfl ?_
          refine J.no (Wan.is rfl rfl rfl rfl rfl) rfl rfl ?_
          refine J.no (Wan.is rfl rfl rfl rfl rfl) rfl rfl ?_
          refine J.y (op_pickT rfl rfl rfl) rfl rfl rfl ?_
          refine J.y (op_move rfl rfl) rfl rfl rfl ?_
          refine J.no (Wan.is rfl rfl rfl rfl rfl) rfl rfl ?_
          refine J.no (Wan.is rfl rfl rfl rfl rfl) rfl rfl ?_
          refine J.no (Wan.is rfl rfl rfl rfl rfl) rfl rfl ?_
          refine J.no (Wan.is rfl rfl rfl rfl rfl) rfl rfl ?_
          refine J.no (Wan.is rfl rfl rfl rfl rfl) rfl rfl ?_
          refine J.y (op_pickT rfl rfl rfl) rfl rfl rfl ?_
          refine J.y (op_move rfl rfl) rfl rfl rfl ?_
          refine J.no (Wan.is rfl rfl rfl rfl rfl) rfl rfl ?_
          refine J.no (Wan.is rfl rfl rfl rfl rfl) rfl rfl ?_
          refine J.no (Wan.is rfl rfl rfl rfl rfl) rfl rfl ?_
          refine J.no (Wan.is rfl rfl rfl rfl rfl) rfl rfl ?_
          refine J.no (Wan.is rfl rfl rfl rfl rfl) rfl rfl ?_
          refine J.y (op_pickT rfl rfl rfl) rfl rfl rfl ?_
          refine J.y (op_move rfl rfl) rfl rfl rfl ?_
          refine J.no (Wan.is rfl rfl rfl rfl rfl) rfl rfl ?_
          refine J.no (Wan.is rfl rfl rfl rfl rfl) rfl rfl ?_
          refine J.no (Wan.is rfl rfl rfl rfl rfl) rfl rfl ?_
          refine J.no (Wan.is rfl rfl rfl rfl rfl) rfl rfl ?_
          refine J.no (Wan.is rfl rfl rfl rfl rfl) rfl rfl ?_
          refine J.y (op_pickT rfl rfl rfl) rfl rfl rfl ?_
          refine J.nil ?_
          refine J.then_n (J.k hK16 ?_)
          refine J.keepE [(3, _), (5, _), (6, _), (7, _), (8, _), (57, _)] ⟨rfl, rfl, rfl, rfl, rfl, rfl, trivial⟩ ?_
          refine J.condT rfl rfl ?_
          refine J.seq (fun K17 hK17 => ?_)
          refine J.seq (fun K18 hK18 => ?_)
          refine J.region ?_
          refine J.y (op_move rfl rfl) rfl rfl rfl ?_
          refine J.y (op_not rfl rfl) rfl rfl rfl ?_
          refine J.y (op_move rfl rfl) rfl rfl rfl ?_
          refine J.splitB (d := 60) rfl (fun h60 => ?_) (fun h60 => ?_)
          ·
            refine J.no (Wan.is rfl rfl rfl rfl rfl) rfl rfl ?_
            refine J.no (Wan.is rfl rfl rfl rfl rfl) rfl rfl ?_
            refine J.no (Wan.is rfl rfl rfl rfl rfl) rfl rfl ?_
            refine J.no (Wan.un rfl rfl rfl rfl) rfl rfl ?_
            refine J.no (Wan.un rfl rfl rfl rfl) rfl rfl ?_
            refine J.no (Wan.is rfl rfl rfl rfl rfl) rfl rfl ?_
            refine J.no (Wan.is rfl rfl rfl rfl rfl) rfl rfl ?_
            refine J.no (Wan.un rfl rfl rfl rfl) rfl rfl ?_
            refine J.no (Wan.un rfl rfl rfl rfl) rfl rfl ?_
            refine J.no (Wan.is rfl rfl rfl rfl rfl) rfl rfl ?_
            refine J.no (Wan.is rfl rfl rfl rfl rfl) rfl rfl ?_
            refine J.no (Wan.un rfl rfl rfl rfl) rfl rfl ?_
            refine J.no (Wan.un rfl rfl rfl rfl) rfl rfl ?_
            refine J.no (Wan.is rfl rfl rfl rfl rfl) rfl rfl ?_
            refine J.y (op_pickT rfl rfl rfl) rfl rfl rfl ?_
            refine J.nil ?_
            refine J.then_n (J.k hK18 ?_)
            refine J.keepE [(3, _), (5, _), (8, _), (75, _)] ⟨rfl, rfl, rfl, rfl, trivial⟩ ?_
            refine J.condT rfl rfl ?_
            refine J.seq (fun K19 hK19 => ?_)
            refine J.region ?_
            refine J.y (op_assign rfl rfl) rfl rfl rfl ?_
            refine J.nil ?_
            refine J.then_n (J.k hK19 ?_)
            refine J.keepE [(2, _)] ⟨rfl, trivial⟩ ?_
            refine J.ret ?_
            refine J.then_r ?_
            refine J.then_r ?_
            refine J.blk_r ?_
            refine J.then_r ?_
            refine J.then_r ?_
            refine J.blk_r ?_
            refine J.then_r ?_
            exact J.done hw0 (fun _ _ h => h) (res1 rfl rfl) (retOk () (by first | (exfalso; omega) | exact why_is5 hwn (whyI_bad hi (by omega) (by first | (left; omega) | (right; exact (by unfold sepr; rw [decide_eq_true_eq]; omega))) (by first | (left; simpa using h60) | (right; exact good_no (by omega)))) | exact why_is5 hwn (whyI_bad2 hi (by omega) (by unfold sepr; rw [decide_eq_true_eq]; omega) (by omega)) | exact why_is5 hwn ((whyI_fin hi (by omega)).trans (decide_eq_false (by omega))) | exact why_is0 hwn ((whyI_fin hi (by omega)).trans (decide_eq_true (by omega)))) trivial [0] rfl (by decide))
          ·
            refine J.yg (Wan.is rfl rfl rfl rfl rfl) (op_move rfl rfl) rfl rfl ?_
            refine J.yg (Wan.is rfl rfl rfl rfl rfl) (op_neq rfl rfl rfl) rfl rfl ?_
            refine J.yg (Wan.is rfl rfl rfl rfl rfl) (op_move rfl rfl) rfl rfl ?_
            refine J.split (d := 63) rfl (fun h63 => ?_) (fun h63 => ?_)
            ·
              refine J.yg (Wan.is rfl rfl rfl rfl rfl) (op_move rfl rfl) rfl rfl ?_
              refine J.yg (Wan.is rfl rfl rfl rfl rfl) (op_neq rfl rfl rfl) rfl rfl ?_
              refine J.yg (Wan.is rfl rfl rfl rfl rfl) (op_pickT rfl rfl rfl) rfl rfl ?_
              refine J.yg (Wan.is rfl rfl rfl rfl rfl) (op_move rfl rfl) rfl rfl ?_
              refine J.split (d := 67) rfl (fun h67 => ?_) (fun h67 => ?_)
              ·
                refine J.yg (Wan.is rfl rfl rfl rfl rfl) (op_move rfl rfl) rfl rfl ?_
                refine J.yg (Wan.is rfl rfl rfl rfl rfl) (op_neq rfl rfl rfl) rfl rfl ?_
                refine J.yg (Wan.is rfl rfl rfl rfl rfl) (op_pickT rfl rfl rfl) rfl rfl ?_
                refine J.yg (Wan.is rfl rfl rfl rfl rfl) (op_move rfl rfl) rfl rfl ?_
                refine J.split (d := 71) rfl (fun h71 => ?_) (fun h71 => ?_)
                ·
                  refine J.yg (Wan.is rfl rfl rfl rfl rfl) (op_move rfl rfl) rfl rfl ?_
                  refine J.yg (Wan.is rfl rfl rfl rfl rfl) (op_neq rfl rfl rfl) rfl rfl ?_
                  refine J.yg (Wan.is rfl rfl rfl rfl rfl) (op_pickT rfl rfl rfl) rfl rfl ?_
                  refine J.y (op_pickF rfl rfl rfl) rfl rfl rfl ?_
                  refine J.nil ?_
                  refine J.then_n (J.k hK18 ?_)
                  refine J.keepE [(3, _), (5, _), (8, _), (75, _)] ⟨rfl, rfl, rfl, rfl, trivial⟩ ?_
                  refine J.ite rfl (fun h75 => ?_) (fun h75 => ?_)
                  ·
                    refine J.seq (fun K20 hK20 => ?_)
                    refine J.region ?_
                    refine J.y (op_assign rfl rfl) rfl rfl rfl ?_
                    refine J.nil ?_
                    refine J.then_n (J.k hK20 ?_)
                    refine J.keepE [(2, _)] ⟨rfl, trivial⟩ ?_
                    refine J.ret ?_
                    refine J.then_r ?_
                    refine J.then_r ?_
                    refine J.blk_r ?_
                    refine J.then_r ?_
                    refine J.then_r ?_
                    refine J.blk_r ?_
                    refine J.then_r ?_
                    exact J.done hw0 (fun _ _ h => h) (res1 rfl rfl) (retOk () (by first | (exfalso; omega) | exact why_is5 hwn (whyI_bad hi (by omega) (by first | (left; omega) | (right; exact (by unfold sepr; rw [decide_eq_true_eq]; omega))) (by first | (left; simpa using h60) | (right; exact good_no (by omega)))) | exact why_is5 hwn (whyI_bad2 hi (by omega) (by unfold sepr; rw [decide_eq_true_eq]; omega) (by omega)) | exact why_is5 hwn ((whyI_fin hi (by omega)).trans (decide_eq_false (by omega))) | exact why_is0 hwn ((whyI_fin hi (by omega)).trans (decide_eq_true (by omega)))) trivial [0] rfl (by decide))
                  ·
                    refine J.skip ?_
                    refine J.then_n (J.k hK17 ?_)
                    refine J.keepE [(3, _), (5, _), (8, _)] ⟨rfl, rfl, rfl, trivial⟩ ?_
                    refine J.seq (fun K21 hK21 => ?_)
                    refine J.seq (fun K22 hK22 => ?_)
                    refine J.region ?_
                    refine J.y (op_move rfl rfl) rfl rfl rfl ?_
                    refine J.y (op_move rfl rfl) rfl rfl rfl ?_
                    refine J.y (op_len Tryd.underlying27 rfl rfl) rfl rfl rfl ?_
                    refine J.y (op_lss rfl rfl rfl) rfl rfl rfl ?_
                    refine J.y (op_move rfl rfl) rfl rfl rfl ?_
                    refine J.split (d := 80) rfl (fun h80 => ?_) (fun h80 => ?_)
                    ·
                      refine J.yg (Wan.is rfl rfl rfl rfl rfl) (op_move rfl rfl) rfl rfl ?_
                      refine J.yg (Wan.is rfl rfl rfl rfl rfl) (op_move rfl rfl) rfl rfl ?_
                      refine J.yg (Wan.is rfl rfl rfl rfl rfl) (op_indexAddr (i := i) rfl rfl rfl Tryd.underlying27 Tryd.sizeOf3 h12.sl (by first | omega | (simp only [List.length_append, List.length_cons, List.length_nil, List.length_take, List.length_drop] at *; omega))) rfl rfl ?_
                      refine J.yg (Wan.is rfl rfl rfl rfl rfl) (op_load rfl rfl Tryd.isAgg3 (m := m12) (by simp) (h12.sl.elem (natsV_get (by first | omega | (simp only [List.length_append, List.length_cons, List.length_nil, List.length_take, List.length_drop] at *; omega))))) rfl rfl ?_
                      refine J.yg (Wan.is rfl rfl rfl rfl rfl) (op_eql rfl rfl rfl) rfl rfl ?_
                      refine J.y (op_pickT rfl rfl rfl) rfl rfl rfl ?_
                      refine J.nil ?_
                      refine J.then_n (J.k hK22 ?_)
                      refine J.keepE [(3, _), (5, _), (8, _), (86, _)] ⟨rfl, rfl, rfl, rfl, trivial⟩ ?_
                      refine J.ite rfl (fun h86 => ?_) (fun h86 => ?_)
                      ·
                        refine J.region ?_
                        refine J.y (op_move rfl rfl) rfl rfl rfl ?_
                        refine J.y ((op_add rfl rfl rfl (by first | omega | (simp only [List.length_append, List.length_cons, List.length_nil, List.length_take, List.length_drop] at *; omega))).as (v' := I ((a + 1 : Nat) : Int)) (congrArg I (by omega))) rfl rfl rfl ?_
                        refine J.y (op_assign rfl rfl) rfl rfl rfl ?_
                        refine J.nil ?_
                        refine J.then_n (J.k hK21 ?_)
                        refine J.keepE [(3, _), (5, _), (8, _)] ⟨rfl, rfl, rfl, trivial⟩ ?_
                        refine J.seq (fun K23 hK23 => ?_)
                        refine J.region ?_
                        refine J.y (op_assign rfl rfl) rfl rfl rfl ?_
                        refine J.y (op_assign rfl rfl) rfl rfl rfl ?_
                        refine J.nil ?_
                        refine J.then_n (J.k hK23 ?_)
                        refine J.keepE [(3, _), (5, _), (6, _), (7, _), (8, _)] ⟨rfl, rfl, rfl, rfl, rfl, trivial⟩ ?_
                        refine J.exit ?_
                        refine J.then_x ?_
                        refine J.blk_eq ?_
                        refine J.then_n (J.k hK14 ?_)
                        refine J.keepE [(3, _), (5, _), (6, _), (7, _), (8, _)] ⟨rfl, rfl, rfl, rfl, rfl, trivial⟩ ?_
                        refine J.region ?_
                        refine J.y (op_move rfl rfl) rfl rfl rfl ?_
                        refine J.y ((op_add rfl rfl rfl (by first | omega | (simp only [List.length_append, List.length_cons, List.length_nil, List.length_take, List.length_drop] at *; omega))).as (v' := I ((i + 1 : Nat) : Int)) (congrArg I (by omega))) rfl rfl rfl ?_
                        refine J.y (op_assign rfl rfl) rfl rfl rfl ?_
                        refine J.nil ?_
                        refine J.then_n ?_
                        exact J.kk (i + 1, a + 1, 0, false) (fun η (hη : _ ∧ (rlo s).length + 1 - η.1 < (rlo s).length + 1 - i) => hI0 η hη.1 hη.2) ⟨⟨by first | exact whyI_let hi (by omega) (by unfold sepr; rw [decide_eq_true_eq]; omega) (by omega) | exact whyI_end hi (by omega) (by simpa using h60) (good_yes (by omega)) | exact whyI_sep hi (by omega) (by unfold sepr; rw [decide_eq_true_eq]; omega) (by simpa using h60) (good_yes (by omega)) (by first | rw [if_pos (by omega)] | rw [if_neg (by omega)]), by dsimp only; omega⟩, by first | omega | (dsimp only; omega)⟩ ⟨rfl, rfl, rfl, rfl, rfl, trivial⟩ (fun _ h => h)
                      ·
                        refine J.skip ?_
                        refine J.then_n (J.k hK21 ?_)
                        refine J.keepE [(3, _), (5, _), (8, _)] ⟨rfl, rfl, rfl, trivial⟩ ?_
                        refine J.seq (fun K24 hK24 => ?_)
                        refine J.region ?_
                        refine J.y (op_assign rfl rfl) rfl rfl rfl ?_
                        refine J.y (op_assign rfl rfl) rfl rfl rfl ?_
                        refine J.nil ?_
                        refine J.then_n (J.k hK24 ?_)
                        refine J.keepE [(3, _), (5, _), (6, _), (7, _), (8, _)] ⟨rfl, rfl, rfl, rfl, rfl, trivial⟩ ?_
                        refine J.exit ?_
                        refine J.then_x ?_
                        refine J.blk_eq ?_
                        refine J.then_n (J.k hK14 ?_)
                        refine J.keepE [(3, _), (5, _), (6, _), (7, _), (8, _)] ⟨rfl, rfl, rfl, rfl, rfl, trivial⟩ ?_
                        refine J.region ?_
                        refine J.y (op_move rfl rfl) rfl rfl rfl ?_
                        refine J.y ((op_add rfl rfl rfl (by first | omega | (simp only [List.length_append, List.length_cons, List.length_nil, List.length_take, List.length_drop] at *; omega))).as (v' := I ((i + 1 : Nat) : Int)) (congrArg I (by omega))) rfl rfl rfl ?_
                        refine J.y (op_assign rfl rfl) rfl rfl rfl ?_
                        refine J.nil ?_
                        refine J.then_n ?_
                        exact J.kk (i + 1, a, 0, false) (fun η (hη : _ ∧ (rlo s).length + 1 - η.1 < (rlo s).length + 1 - i) => hI0 η hη.1 hη.2) ⟨⟨by first | exact whyI_let hi (by omega) (by unfold sepr; rw [decide_eq_true_eq]; omega) (by omega) | exact whyI_end hi (by omega) (by simpa using h60) (good_yes (by omega)) | exact whyI_sep hi (by omega) (by unfold sepr; rw [decide_eq_true_eq]; omega) (by simpa using h60) (good_yes (by omega)) (by first | rw [if_pos (by omega)] | rw [if_neg (by omega)]), by dsimp only; omega⟩, by first | omega | (dsimp only; omega)⟩ ⟨rfl, rfl, rfl, rfl, rfl, trivial⟩ (fun _ h => h)
                    ·
                      refine J.no (Wan.is rfl rfl rfl rfl rfl) rfl rfl ?_
                      refine J.no (Wan.is rfl rfl rfl rfl rfl) rfl rfl ?_
                      refine J.no (Wan.is rfl rfl rfl rfl rfl) rfl rfl ?_
                      refine J.no (Wan.is rfl rfl rfl rfl rfl) rfl rfl ?_
                      refine J.no (Wan.is rfl rfl rfl rfl rfl) rfl rfl ?_
                      refine J.y (op_pickF rfl rfl rfl) rfl rfl rfl ?_
                      refine J.nil ?_
                      refine J.then_n (J.k hK22 ?_)
                      refine J.keepE [(3, _), (5, _), (8, _), (86, _)] ⟨rfl, rfl, rfl, rfl, trivial⟩ ?_
                      refine J.condF rfl rfl ?_
                      refine J.skip ?_
                      refine J.then_n (J.k hK21 ?_)
                      refine J.keepE [(3, _), (5, _), (8, _)] ⟨rfl, rfl, rfl, trivial⟩ ?_
                      refine J.seq (fun K25 hK25 => ?_)
                      refine J.region ?_
                      refine J.y (op_assign rfl rfl) rfl rfl rfl ?_
                      refine J.y (op_assign rfl rfl) rfl rfl rfl ?_
                      refine J.nil ?_
                      refine J.then_n (J.k hK25 ?_)
                      refine J.keepE [(3, _), (5, _), (6, _), (7, _), (8, _)] ⟨rfl, rfl, rfl, rfl, rfl, trivial⟩ ?_
                      refine J.exit ?_
                      refine J.then_x ?_
                      refine J.blk_eq ?_
                      refine J.then_n (J.k hK14 ?_)
                      refine J.keepE [(3, _), (5, _), (6, _), (7, _), (8, _)] ⟨rfl, rfl, rfl, rfl, rfl, trivial⟩ ?_
                      refine J.region ?_
                      refine J.y (op_move rfl rfl) rfl rfl rfl ?_
                      refine J.y ((op_add rfl rfl rfl (by first | omega | (simp only [List.length_append, List.length_cons, List.length_nil, List.length_take, List.length_drop] at *; omega))).as (v' := I ((i + 1 : Nat) : Int)) (congrArg I (by omega))) rfl rfl rfl ?_
                      refine J.y (op_assign rfl rfl) rfl rfl rfl ?_
                      refine J.nil ?_
                      refine J.then_n ?_
                      exact J.kk (i + 1, a, 0, false) (fun η (hη : _ ∧ (rlo s).length + 1 - η.1 < (rlo s).length + 1 - i) => hI0 η hη.1 hη.2) ⟨⟨by first | exact whyI_let hi (by omega) (by unfold sepr; rw [decide_eq_true_eq]; omega) (by omega) | exact whyI_end hi (by omega) (by simpa using h60) (good_yes (by omega)) | exact whyI_sep hi (by omega) (by unfold sepr; rw [decide_eq_true_eq]; omega) (by simpa using h60) (good_yes (by omega)) (by first | rw [if_pos (by omega)] | rw [if_neg (by omega)]), by dsimp only; omega⟩, by first | omega | (dsimp only; omega)⟩ ⟨rfl, rfl, rfl, rfl, rfl, trivial⟩ (fun _ h => h)
                ·
                  refine J.no (Wan.is rfl rfl rfl rfl rfl) rfl rfl ?_
                  refine J.no (Wan.is rfl rfl rfl rfl rfl) rfl rfl ?_
                  refine J.yg (Wan.is rfl rfl rfl rfl rfl) (op_pickF rfl rfl rfl) rfl rfl ?_
                  refine J.y (op_pickF rfl rfl rfl) rfl rfl rfl ?_
                  refine J.nil ?_
                  refine J.then_n (J.k hK18 ?_)
                  refine J.keepE [(3, _), (5, _), (8, _), (75, _)] ⟨rfl, rfl, rfl, rfl, trivial⟩ ?_
                  refine J.condF rfl rfl ?_
                  refine J.skip ?_
                  refine J.then_n (J.k hK17 ?_)
                  refine J.keepE [(3, _), (5, _), (8, _)] ⟨rfl, rfl, rfl, trivial⟩ ?_
                  refine J.seq (fun K26 hK26 => ?_)
                  refine J.seq (fun K27 hK27 => ?_)
                  refine J.region ?_
                  refine J.y (op_move rfl rfl) rfl rfl rfl ?_
                  refine J.y (op_move rfl rfl) rfl rfl rfl ?_
                  refine J.y (op_len Tryd.underlying27 rfl rfl) rfl rfl rfl ?_
                  refine J.y (op_lss rfl rfl rfl) rfl rfl rfl ?_
                  refine J.y (op_move rfl rfl) rfl rfl rfl ?_
                  refine J.split (d := 80) rfl (fun h80 => ?_) (fun h80 => ?_)
                  ·
                    refine J.yg (Wan.is rfl rfl rfl rfl rfl) (op_move rfl rfl) rfl rfl ?_
                    refine J.yg (Wan.is rfl rfl rfl rfl rfl) (op_move rfl rfl) rfl rfl ?_
                    refine J.yg (Wan.is rfl rfl rfl rfl rfl) (op_indexAddr (i := i) rfl rfl rfl Tryd.underlying27 Tryd.sizeOf3 h12.sl (by first | omega | (simp only [List.length_append, List.length_cons, List.length_nil, List.length_take, List.length_drop] at *; omega))) rfl rfl ?_
                    refine J.yg (Wan.is rfl rfl rfl rfl rfl) (op_load rfl rfl Tryd.isAgg3 (m := m12) (by simp) (h12.sl.elem (natsV_get (by first | omega | (simp only [List.length_append, List.length_cons, List.length_nil, List.length_take, List.length_drop] at *; omega))))) rfl rfl ?_
                    refine J.yg (Wan.is rfl rfl rfl rfl rfl) (op_eql rfl rfl rfl) rfl rfl ?_
                    refine J.y (op_pickT rfl rfl rfl) rfl rfl rfl ?_
                    refine J.nil ?_
                    refine J.then_n (J.k hK27 ?_)
                    refine J.keepE [(3, _), (5, _), (8, _), (86, _)] ⟨rfl, rfl, rfl, rfl, trivial⟩ ?_
                    refine J.ite rfl (fun h86 => ?_) (fun h86 => ?_)
                    ·
                      refine J.region ?_
                      refine J.y (op_move rfl rfl) rfl rfl rfl ?_
                      refine J.y ((op_add rfl rfl rfl (by first | omega | (simp only [List.length_append, List.length_cons, List.length_nil, List.length_take, List.length_drop] at *; omega))).as (v' := I ((a + 1 : Nat) : Int)) (congrArg I (by omega))) rfl rfl rfl ?_
                      refine J.y (op_assign rfl rfl) rfl rfl rfl ?_
                      refine J.nil ?_
                      refine J.then_n (J.k hK26 ?_)
                      refine J.keepE [(3, _), (5, _), (8, _)] ⟨rfl, rfl, rfl, trivial⟩ ?_
                      refine J.seq (fun K28 hK28 => ?_)
                      refine J.region ?_
                      refine J.y (op_assign rfl rfl) rfl rfl rfl ?_
                      refine J.y (op_assign rfl rfl) rfl rfl rfl ?_
                      refine J.nil ?_
                      refine J.then_n (J.k hK28 ?_)
                      refine J.keepE [(3, _), (5, _), (6, _), (7, _), (8, _)] ⟨rfl, rfl, rfl, rfl, rfl, trivial⟩ ?_
                      refine J.exit ?_
                      refine J.then_x ?_
                      refine J.blk_eq ?_
                      refine J.then_n (J.k hK14 ?_)
                      refine J.keepE [(3, _), (5, _), (6, _), (7, _), (8, _)] ⟨rfl, rfl, rfl, rfl, rfl, trivial⟩ ?_
                      refine J.region ?_
                      refine J.y (op_move rfl rfl) rfl rfl rfl ?_
                      refine J.y ((op_add rfl rfl rfl (by first | omega | (simp only [List.length_append, List.length_cons, List.length_nil, List.length_take, List.length_drop] at *; omega))).as (v' := I ((i + 1 : Nat) : Int)) (congrArg I (by omega))) rfl rfl rfl ?_
                      refine J.y (op_assign rfl rfl) rfl rfl rfl ?_
                      refine J.nil ?_
                      refine J.then_n ?_
                      exact J.kk (i + 1, a + 1, 0, false) (fun η (hη : _ ∧ (rlo s).length + 1 - η.1 < (rlo s).length + 1 - i) => hI0 η hη.1 hη.2) ⟨⟨by first | exact whyI_let hi (by omega) (by unfold sepr; rw [decide_eq_true_eq]; omega) (by omega) | exact whyI_end hi (by omega) (by simpa using h60) (good_yes (by omega)) | exact whyI_sep hi (by omega) (by unfold sepr; rw [decide_eq_true_eq]; omega) (by simpa using h60) (good_yes (by omega)) (by first | rw [if_pos (by omega)] | rw [if_neg (by omega)]), by dsimp only; omega⟩, by first | omega | (dsimp only; omega)⟩ ⟨rfl, rfl, rfl, rfl, rfl, trivial⟩ (fun _ h => h)
                    ·
                      refine J.skip ?_
                      refine J.then_n (J.k hK26 ?_)
                      refine J.keepE [(3, _), (5, _), (8, _)] ⟨rfl, rfl, rfl, trivial⟩ ?_
                      refine J.seq (fun K29 hK29 => ?_)
                      refine J.region ?_
                      refine J.y (op_assign rfl rfl) rfl rfl rfl ?_
                      refine J.y (op_assign rfl rfl) rfl rfl rfl ?_
                      refine J.nil ?_
                      refine J.then_n (J.k hK29 ?_)
                      refine J.keepE [(3, _), (5, _), (6, _), (7, _), (8, _)] ⟨rfl, rfl, rfl, rfl, rfl, trivial⟩ ?_
                      refine J.exit ?_
                      refine J.then_x ?_
                      refine J.blk_eq ?_
                      refine J.then_n (J.k hK14 ?_)
                      refine J.keepE [(3, _), (5, _), (6, _), (7, _), (8, _)] ⟨rfl, rfl, rfl, rfl, rfl, trivial⟩ ?_
                      refine J.region ?_
                      refine J.y (op_move rfl rfl) rfl rfl rfl ?_
                      refine J.y ((op_add rfl rfl rfl (by first | omega | (simp only [List.length_append, List.length_cons, List.length_nil, List.length_take, List.length_drop] at *; omega))).as (v' := I ((i + 1 : Nat) : Int)) (congrArg I (by omega))) rfl rfl rfl ?_
                      refine J.y (op_assign rfl rfl) rfl rfl rfl ?_
                      refine J.nil ?_
                      refine J.then_n ?_
                      exact J.kk (i + 1, a, 0, false) (fun η (hη : _ ∧ (rlo s).length + 1 - η.1 < (rlo s).length + 1 - i) => hI0 η hη.1 hη.2) ⟨⟨by first | exact whyI_let hi (by omega) (by unfold sepr; rw [decide_eq_true_eq]; omega) (by omega) | exact whyI_end hi (by omega) (by simpa using h60) (good_yes (by omega)) | exact whyI_sep hi (by omega) (by unfold sepr; rw [decide_eq_true_eq]; omega) (by simpa using h60) (good_yes (by omega)) (by first | rw [if_pos (by omega)] | rw [if_neg (by omega)]), by dsimp only; omega⟩, by first | omega | (dsimp only; omega)⟩ ⟨rfl, rfl, rfl, rfl, rfl, trivial⟩ (fun _ h => h)
                  ·
                    refine J.no (Wan.is rfl rfl rfl rfl rfl) rfl rfl ?_
                    refine J.no (Wan.is rfl rfl rfl rfl rfl) rfl rfl ?_
                    refine J.no (Wan.is rfl rfl rfl rfl rfl) rfl rfl ?_
                    refine J.no (Wan.is rfl rfl rfl rfl rfl) rfl rfl ?_
                    refine J.no (Wan.is rfl rfl rfl rfl rfl) rfl rfl ?_
                    refine J.y (op_pickF rfl rfl rfl) rfl rfl rfl ?_
                    refine J.nil ?_
                    refine J.then_n (J.k hK27 ?_)
                    refine J.keepE [(3, _), (5, _), (8, _), (86, _)] ⟨rfl, rfl, rfl, rfl, trivial⟩ ?_
                    refine J.condF rfl rfl ?_
                    refine J.skip ?_
                    refine J.then_n (J.k hK26 ?_)
                    refine J.keepE [(3, _), (5, _), (8, _)] ⟨rfl, rfl, rfl, trivial⟩ ?_
                    refine J.seq (fun K30 hK30 => ?_)
                    refine J.region ?_
                    refine J.y (op_assign rfl rfl) rfl rfl rfl ?_
                    refine J.y (op_assign rfl rfl) rfl rfl rfl ?_
                    refine J.nil ?_
                    refine J.then_n (J.k hK30 ?_)
                    refine J.keepE [(3, _), (5, _), (6, _), (7, _), (8, _)] ⟨rfl, rfl, rfl, rfl, rfl, trivial⟩ ?_
                    refine J.exit ?_
                    refine J.then_x ?_
                    refine J.blk_eq ?_
                    refine J.then_n (J.k hK14 ?_)
                    refine J.keepE [(3, _), (5, _), (6, _), (7, _), (8, _)] ⟨rfl, rfl, rfl, rfl, rfl, trivial⟩ ?_
                    refine J.region ?_
                    refine J.y (op_move rfl rfl) rfl rfl rfl ?_
                    refine J.y ((op_add rfl rfl rfl (by first | omega | (simp only [List.length_append, List.length_cons, List.length_nil, List.length_take, List.length_drop] at *; omega))).as (v' := I ((i + 1 : Nat) : Int)) (congrArg I (by omega))) rfl rfl rfl ?_
                    refine J.y (op_assign rfl rfl) rfl rfl rfl ?_
                    refine J.nil ?_
                    refine J.then_n ?_
                    exact J.kk (i + 1, a, 0, false) (fun η (hη : _ ∧ (rlo s).length + 1 - η.1 < (rlo s).length + 1 - i) => hI0 η hη.1 hη.2) ⟨⟨by first | exact whyI_let hi (by omega) (by unfold sepr; rw [decide_eq_true_eq]; omega) (by omega) | exact whyI_end hi (by omega) (by simpa using h60) (good_yes (by omega)) | exact whyI_sep hi (by omega) (by unfold sepr; rw [decide_eq_true_eq]; omega) (by simpa using h60) (good_yes (by omega)) (by first | rw [if_pos (by omega)] | rw [if_neg (by omega)]), by dsimp only; omega⟩, by first | omega | (dsimp only; omega)⟩ ⟨rfl, rfl, rfl, rfl, rfl, trivial⟩ (fun _ h => h)
              ·
                refine J.no (Wan.is rfl rfl rfl rfl rfl) rfl rfl ?_
                refine J.no (Wan.is rfl rfl rfl rfl rfl) rfl rfl ?_
                refine J.yg (Wan.is rfl rfl rfl rfl rfl) (op_pickF rfl rfl rfl) rfl rfl ?_
                refine J.yg (Wan.is rfl rfl rfl rfl rfl) (op_move rfl rfl) rfl rfl ?_
                refine J.no (Wan.is rfl rfl rfl rfl rfl) rfl rfl ?_
                refine J.no (Wan.is rfl rfl rfl rfl rfl) rfl rfl ?_
                refine J.yg (Wan.is rfl rfl rfl rfl rfl) (op_pickF rfl rfl rfl) rfl rfl ?_
                refine J.y (op_pickF rfl rfl rfl) rfl rfl rfl ?_
                refine J.nil ?_
                refine J.then_n (J.k hK18 ?_)
                refine J.keepE [(3, _), (5, _), (8, _), (75, _)] ⟨rfl, rfl, rfl, rfl, trivial⟩ ?_
                refine J.condF rfl rfl ?_
                refine J.skip ?_
                refine J.then_n (J.k hK17 ?_)
                refine J.keepE [(3, _), (5, _), (8, _)] ⟨rfl, rfl, rfl, trivial⟩ ?_
                refine J.seq (fun K31 hK31 => ?_)
                refine J.seq (fun K32 hK32 => ?_)
                refine J.region ?_
                refine J.y (op_move rfl rfl) rfl rfl rfl ?_
                refine J.y (op_move rfl rfl) rfl rfl rfl ?_
                refine J.y (op_len Tryd.underlying27 rfl rfl) rfl rfl rfl ?_
                refine J.y (op_lss rfl rfl rfl) rfl rfl rfl ?_
                refine J.y (op_move rfl rfl) rfl rfl rfl ?_
                refine J.split (d := 80) rfl (fun h80 => ?_) (fun h80 => ?_)
                ·
                  refine J.yg (Wan.is rfl rfl rfl rfl rfl) (op_move rfl rfl) rfl rfl ?_
                  refine J.yg (Wan.is rfl rfl rfl rfl rfl) (op_move rfl rfl) rfl rfl ?_
                  refine J.yg (Wan.is rfl rfl rfl rfl rfl) (op_indexAddr (i := i) rfl rfl rfl Tryd.underlying27 Tryd.sizeOf3 h12.sl (by first | omega | (simp only [List.length_append, List.length_cons, List.length_nil, List.length_take, List.length_drop] at *; omega))) rfl rfl ?_
                  refine J.yg (Wan.is rfl rfl rfl rfl rfl) (op_load rfl rfl Tryd.isAgg3 (m := m12) (by simp) (h12.sl.elem (natsV_get (by first | omega | (simp only [List.length_append, List.length_cons, List.length_nil, List.length_take, List.length_drop] at *; omega))))) rfl rfl ?_
                  refine J.yg (Wan.is rfl rfl rfl rfl rfl) (op_eql rfl rfl rfl) rfl rfl ?_
                  refine J.y (op_pickT rfl rfl rfl) rfl rfl rfl ?_
                  refine J.nil ?_
                  refine J.then_n (J.k hK32 ?_)
                  refine J.keepE [(3, _), (5, _), (8, _), (86, _)] ⟨rfl, rfl, rfl, rfl, trivial⟩ ?_
                  refine J.ite rfl (fun h86 => ?_) (fun h86 => ?_)
                  ·
                    refine J.region ?_
                    refine J.y (op_move rfl rfl) rfl rfl rfl ?_
                    refine J.y ((op_add rfl rfl rfl (by first | omega | (simp only [List.length_append, List.length_cons, List.length_nil, List.length_take, List.length_drop] at *; omega))).as (v' := I ((a + 1 : Nat) : Int)) (congrArg I (by omega))) rfl rfl rfl ?_
                    refine J.y (op_assign rfl rfl) rfl rfl rfl ?_
                    refine J.nil ?_
                    refine J.then_n (J.k hK31 ?_)
                    refine J.keepE [(3, _), (5, _), (8, _)] ⟨rfl, rfl, rfl, trivial⟩ ?_
                    refine J.seq (fun K33 hK33 => ?_)
                    refine J.region ?_
                    refine J.y (op_assign rfl rfl) rfl rfl rfl ?_
                    refine J.y (op_assign rfl rfl) rfl rfl rfl ?_
                    refine J.nil ?_
                    refine J.then_n (J.k hK33 ?_)
                    refine J.keepE [(3, _), (5, _), (6, _), (7, _), (8, _)] ⟨rfl, rfl, rfl, rfl, rfl, trivial⟩ ?_
                    refine J.exit ?_
                    refine J.then_x ?_
                    refine J.blk_eq ?_
                    refine J.then_n (J.k hK14 ?_)
                    refine J.keepE [(3, _), (5, _), (6, _), (7, _), (8, _)] ⟨rfl, rfl, rfl, rfl, rfl, trivial⟩ ?_
                    refine J.region ?_
                    refine J.y (op_move rfl rfl) rfl rfl rfl ?_
                    refine J.y ((op_add rfl rfl rfl (by first | omega | (simp only [List.length_append, List.length_cons, List.length_nil, List.length_take, List.length_drop] at *; omega))).as (v' := I ((i + 1 : Nat) : Int)) (congrArg I (by omega))) rfl rfl rfl ?_
                    refine J.y (op_assign rfl rfl) rfl rfl rfl ?_
                    refine J.nil ?_
                    refine J.then_n ?_
                    exact J.kk (i + 1, a + 1, 0, false) (fun η (hη : _ ∧ (rlo s).length + 1 - η.1 < (rlo s).length + 1 - i) => hI0 η hη.1 hη.2) ⟨⟨by first | exact whyI_let hi (by omega) (by unfold sepr; rw [decide_eq_true_eq]; omega) (by omega) | exact whyI_end hi (by omega) (by simpa using h60) (good_yes (by omega)) | exact whyI_sep hi (by omega) (by unfold sepr; rw [decide_eq_true_eq]; omega) (by simpa using h60) (good_yes (by omega)) (by first | rw [if_pos (by omega)] | rw [if_neg (by omega)]), by dsimp only; omega⟩, by first | omega | (dsimp only; omega)⟩ ⟨rfl, rfl, rfl, rfl, rfl, trivial⟩ (fun _ h => h)
                  ·
                    refine J.skip ?_
                    refine J.then_n (J.k hK31 ?_)
                    refine J.keepE [(3, _), (5, _), (8, _)] ⟨rfl, rfl, rfl, trivial⟩ ?_
                    refine J.seq (fun K34 hK34 => ?_)
                    refine J.region ?_
                    refine J.y (op_assign rfl rfl) rfl rfl rfl ?_
                    refine J.y (op_assign rfl rfl) rfl rfl rfl ?_
                    refine J.nil ?_
                    refine J.then_n (J.k hK34 ?_)
                    refine J.keepE [(3, _), (5, _), (6, _), (7, _), (8, _)] ⟨rfl, rfl, rfl, rfl, rfl, trivial⟩ ?_
                    refine J.exit ?_
                    refine J.then_x ?_
                    refine J.blk_eq ?_
                    refine J.then_n (J.k hK14 ?_)
                    refine J.keepE [(3, _), (5, _), (6, _), (7, _), (8, _)] ⟨rfl, rfl, rfl, rfl, rfl, trivial⟩ ?_
                    refine J.region ?_
                    refine J.y (op_move rfl rfl) rfl rfl rfl ?_
                    refine J.y ((op_add rfl rfl rfl (by first | omega | (simp only [List.length_append, List.length_cons, List.length_nil, List.length_take, List.length_drop] at *; omega))).as (v' := I ((i + 1 : Nat) : Int)) (congrArg I (by omega))) rfl rfl rfl ?_
                    refine J.y (op_assign rfl rfl) rfl rfl rfl ?_
                    refine J.nil ?_
                    refine J.then_n ?_
                    exact J.kk (i + 1, a, 0, false) (fun η (hη : _ ∧ (rlo s).length + 1 - η.1 < (rlo s).length + 1 - i) => hI0 η hη.1 hη.2) ⟨⟨by first | exact whyI_let hi (by omega) (by unfold sepr; rw [decide_eq_true_eq]; omega) (by omega) | exact whyI_end hi (by omega) (by simpa using h60) (good_yes (by omega)) | exact whyI_sep hi (by omega) (by unfold sepr; rw [decide_eq_true_eq]; omega) (by simpa using h60) (good_yes (by omega)) (by first | rw [if_pos (by omega)] | rw [if_neg (by omega)]), by dsimp only; omega⟩, by first | omega | (dsimp only; omega)⟩ ⟨rfl, rfl, rfl, rfl, rfl, trivial⟩ (fun _ h => h)
                ·
                  refine J.no (Wan.is rfl rfl rfl rfl rfl) rfl rfl ?_
                  refine J.no (Wan.is rfl rfl rfl rfl rfl) rfl rfl ?_
                  refine J.no (Wan.is rfl rfl rfl rfl rfl) rfl rfl ?_
                  refine J.no (Wan.is rfl rfl rfl rfl rfl) rfl rfl ?_
                  refine J.no (Wan.is rfl rfl rfl rfl rfl) rfl rfl ?_
                  refine J.y (op_pickF rfl rfl rfl) rfl rfl rfl ?_
                  refine J.nil ?_
                  refine J.then_n (J.k hK32 ?_)
                  refine J.keepE [(3, _), (5, _), (8, _), (86, _)] ⟨rfl, rfl, rfl, rfl, trivial⟩ ?_
                  refine J.condF rfl rfl ?_
                  refine J.skip ?_
                  refine J.then_n (J.k hK31 ?_)
                  refine J.keepE [(3, _), (5, _), (8, _)] ⟨rfl, rfl, rfl, trivial⟩ ?_
                  refine J.seq (fun K35 hK35 => ?_)
                  refine J.region ?_
                  refine J.y (op_assign rfl rfl) rfl rfl rfl ?_
                  refine J.y (op_assign rfl rfl) rfl rfl rfl ?_
                  refine J.nil ?_
                  refine J.then_n (J.k hK35 ?_)
                  refine J.keepE [(3, _), (5, _), (6, _), (7, _), (8, _)] ⟨rfl, rfl, rfl, rfl, rfl, trivial⟩ ?_
                  refine J.exit ?_
                  refine J.then_x ?_
                  refine J.blk_eq ?_
                  refine J.then_n (J.k hK14 ?_)
                  refine J.keepE [(3, _), (5, _), (6, _), (7, _), (8, _)] ⟨rfl, rfl, rfl, rfl, rfl, trivial⟩ ?_
                  refine J.region ?_
                  refine J.y (op_move rfl rfl) rfl rfl rfl ?_
                  refine J.y ((op_add rfl rfl rfl (by first | omega | (simp only [List.length_append, List.length_cons, List.length_nil, List.length_take, List.length_drop] at *; omega))).as (v' := I ((i + 1 : Nat) : Int)) (congrArg I (by omega))) rfl rfl rfl ?_
                  refine J.y (op_assign rfl rfl) rfl rfl rfl ?_
                  refine J.nil ?_
                  refine J.then_n ?_
                  exact J.kk (i + 1, a, 0, false) (fun η (hη : _ ∧ (rlo s).length + 1 - η.1 < (rlo s).length + 1 - i) => hI0 η hη.1 hη.2) ⟨⟨by first | exact whyI_let hi (by omega) (by unfold sepr; rw [decide_eq_true_eq]; omega) (by omega) | exact whyI_end hi (by omega) (by simpa using h60) (good_yes (by omega)) | exact whyI_sep hi (by omega) (by unfold sepr; rw [decide_eq_true_eq]; omega) (by simpa using h60) (good_yes (by omega)) (by first | rw [if_pos (by omega)] | rw [if_neg (by omega)]), by dsimp only; omega⟩, by first | omega | (dsimp only; omega)⟩ ⟨rfl, rfl, rfl, rfl, rfl, trivial⟩ (fun _ h => h)
            ·
              refine J.no (Wan.is rfl rfl rfl rfl rfl) rfl rfl ?_
              refine J.no (Wan.is rfl rfl rfl rfl rfl) rfl rfl ?_
              refine J.yg (Wan.is rfl rfl rfl rfl rfl) (op_pickF rfl rfl rfl) rfl rfl ?_
              refine J.yg (Wan.is rfl rfl rfl rfl rfl) (op_move rfl rfl) rfl rfl ?_
              refine J.no (Wan.is rfl rfl rfl rfl rfl) rfl rfl ?_
              refine J.no (Wan.is rfl rfl rfl rfl rfl) rfl rfl ?_
              refine J.yg (Wan.is rfl rfl rfl rfl rfl) (op_pickF rfl rfl rfl) rfl rfl ?_
              refine J.yg (Wan.is rfl rfl rfl rfl rfl) (op_move rfl rfl) rfl rfl ?_
              refine J.no (Wan.is rfl rfl rfl rfl rfl) rfl rfl ?_
              refine J.no (Wan.is rfl rfl rfl rfl rfl) rfl rfl ?_
              refine J.yg (Wan.is rfl rfl rfl rfl rfl) (op_pickF rfl rfl rfl) rfl rfl ?_
              refine J.y (op_pickF rfl rfl rfl) rfl rfl rfl ?_
              refine J.nil ?_
              refine J.then_n (J.k hK18 ?_)
              refine J.keepE [(3, _), (5, _), (8, _), (75, _)] ⟨rfl, rfl, rfl, rfl, trivial⟩ ?_
              refine J.condF rfl rfl ?_
              refine J.skip ?_
              refine J.then_n (J.k hK17 ?_)
              refine J.keepE [(3, _), (5, _), (8, _)] ⟨rfl, rfl, rfl, trivial⟩ ?_
              refine J.seq (fun K36 hK36 => ?_)
              refine J.seq (fun K37 hK37 => ?_)
              refine J.region ?_
              refine J.y (op_move rfl rfl) rfl rfl rfl ?_
              refine J.y (op_move rfl rfl) rfl rfl rfl ?_
              refine J.y (op_len Tryd.underlying27 rfl rfl) rfl rfl rfl ?_
              refine J.y (op_lss rfl rfl rfl) rfl rfl rfl ?_
              refine J.y (op_move rfl rfl) rfl rfl rfl ?_
              refine J.split (d := 80) rfl (fun h80 => ?_) (fun h80 => ?_)
              ·
                refine J.yg (Wan.is rfl rfl rfl rfl rfl) (op_move rfl rfl) rfl rfl ?_
                refine J.yg (Wan.is rfl rfl rfl rfl rfl) (op_move rfl rfl) rfl rfl ?_
                refine J.yg (Wan.is rfl rfl rfl rfl rfl) (op_indexAddr (i := i) rfl rfl rfl Tryd.underlying27 Tryd.sizeOf3 h12.sl (by first | omega | (simp only [List.length_append, List.length_cons, List.length_nil, List.length_take, List.length_drop] at *; omega))) rfl rfl ?_
                refine J.yg (Wan.is rfl rfl rfl rfl rfl) (op_load rfl rfl Tryd.isAgg3 (m := m12) (by simp) (h12.sl.elem (natsV_get (by first | omega | (simp only [List.length_append, List.length_cons, List.length_nil, List.length_take, List.length_drop] at *; omega))))) rfl rfl ?_
                refine J.yg (Wan.is rfl rfl rfl rfl rfl) (op_eql rfl rfl rfl) rfl rfl ?_
                refine J.y (op_pickT rfl rfl rfl) rfl rfl rfl ?_
                refine J.nil ?_
                refine J.then_n (J.k hK37 ?_)
                refine J.keepE [(3, _), (5, _), (8, _), (86, _)] ⟨rfl, rfl, rfl, rfl, trivial⟩ ?_
                refine J.ite rfl (fun h86 => ?_) (fun h86 => ?_)
                ·
                  refine J.region ?_
                  refine J.y (op_move rfl rfl) rfl rfl rfl ?_
                  refine J.y ((op_add rfl rfl rfl (by first | omega | (simp only [List.length_append, List.length_cons, List.length_nil, List.length_take, List.length_drop] at *; omega))).as (v' := I ((a + 1 : Nat) : Int)) (congrArg I (by omega))) rfl rfl rfl ?_
                  refine J.y (op_assign rfl rfl) rfl rfl rfl ?_
                  refine J.nil ?_
                  refine J.then_n (J.k hK36 ?_)
                  refine J.keepE [(3, _), (5, _), (8, _)] ⟨rfl, rfl, rfl, trivial⟩ ?_
                  refine J.seq (fun K38 hK38 => ?_)
                  refine J.region ?_
                  refine J.y (op_assign rfl rfl) rfl rfl rfl ?_
                  refine J.y (op_assign rfl rfl) rfl rfl rfl ?_
                  refine J.nil ?_
                  refine J.then_n (J.k hK38 ?_)
                  refine J.keepE [(3, _), (5, _), (6, _), (7, _), (8, _)] ⟨rfl, rfl, rfl, rfl, rfl, trivial⟩ ?_
                  refine J.exit ?_
                  refine J.then_x ?_
                  refine J.blk_eq ?_
                  refine J.then_n (J.k hK14 ?_)
                  refine J.keepE [(3, _), (5, _), (6, _), (7, _), (8, _)] ⟨rfl, rfl, rfl, rfl, rfl, trivial⟩ ?_
                  refine J.region ?_
                  refine J.y (op_move rfl rfl) rfl rfl rfl ?_
                  refine J.y ((op_add rfl rfl rfl (by first | omega | (simp only [List.length_append, List.length_cons, List.length_nil, List.length_take, List.length_drop] at *; omega))).as (v' := I ((i + 1 : Nat) : Int)) (congrArg I (by omega))) rfl rfl rfl ?_
                  refine J.y (op_assign rfl rfl) rfl rfl rfl ?_
                  refine J.nil ?_
                  refine J.then_n ?_
                  exact J.kk (i + 1, a + 1, 0, false) (fun η (hη : _ ∧ (rlo s).length + 1 - η.1 < (rlo s).length + 1 - i) => hI0 η hη.1 hη.2) ⟨⟨by first | exact whyI_let hi (by omega) (by unfold sepr; rw [decide_eq_true_eq]; omega) (by omega) | exact whyI_end hi (by omega) (by simpa using h60) (good_yes (by omega)) | exact whyI_sep hi (by omega) (by unfold sepr; rw [decide_eq_true_eq]; omega) (by simpa using h60) (good_yes (by omega)) (by first | rw [if_pos (by omega)] | rw [if_neg (by omega)]), by dsimp only; omega⟩, by first | omega | (dsimp only; omega)⟩ ⟨rfl, rfl, rfl, rfl, rfl, trivial⟩ (fun _ h => h)
                ·
                  refine J.skip ?_
                  refine J.then_n (J.k hK36 ?_)
                  refine J.keepE [(3, _), (5, _), (8, _)] ⟨rfl, rfl, rfl, trivial⟩ ?_
                  refine J.seq (fun K39 hK39 => ?_)
                  refine J.region ?_
                  refine J.y (op_assign rfl rfl) rfl rfl rfl ?_
                  refine J.y (op_assign rfl rfl) rfl rfl rfl ?_
                  refine J.nil ?_
                  refine J.then_n (J.k hK39 ?_)
                  refine J.keepE [(3, _), (5, _), (6, _), (7, _), (8, _)] ⟨rfl, rfl, rfl, rfl, rfl, trivial⟩ ?_
                  refine J.exit ?_
                  refine J.then_x ?_
                  refine J.blk_eq ?_
                  refine J.then_n (J.k hK14 ?_)
                  refine J.keepE [(3, _), (5, _), (6, _), (7, _), (8, _)] ⟨rfl, rfl, rfl, rfl, rfl, trivial⟩ ?_
                  refine J.region ?_
                  refine J.y (op_move rfl rfl) rfl rfl rfl ?_
                  refine J.y ((op_add rfl rfl rfl (by first | omega | (simp only [List.length_append, List.length_cons, List.length_nil, List.length_take, List.length_drop] at *; omega))).as (v' := I ((i + 1 : Nat) : Int)) (congrArg I (by omega))) rfl rfl rfl ?_
                  refine J.y (op_assign rfl rfl) rfl rfl rfl ?_
                  refine J.nil ?_
                  refine J.then_n ?_
                  exact J.kk (i + 1, a, 0, false) (fun η (hη : _ ∧ (rlo s).length + 1 - η.1 < (rlo s).length + 1 - i) => hI0 η hη.1 hη.2) ⟨⟨by first | exact whyI_let hi (by omega) (by unfold sepr; rw [decide_eq_true_eq]; omega) (by omega) | exact whyI_end hi (by omega) (by simpa using h60) (good_yes (by omega)) | exact whyI_sep hi (by omega) (by unfold sepr; rw [decide_eq_true_eq]; omega) (by simpa using h60) (good_yes (by omega)) (by first | rw [if_pos (by omega)] | rw [if_neg (by omega)]), by dsimp only; omega⟩, by first | omega | (dsimp only; omega)⟩ ⟨rfl, rfl, rfl, rfl, rfl, trivial⟩ (fun _ h => h)
              ·
                refine J.no (Wan.is rfl rfl rfl rfl rfl) rfl rfl ?_
                refine J.no (Wan.is rfl rfl rfl rfl rfl) rfl rfl ?_
                refine J.no (Wan.is rfl rfl rfl rfl rfl) rfl rfl ?_
                refine J.no (Wan.is rfl rfl rfl rfl rfl) rfl rfl ?_
                refine J.no (Wan.is rfl rfl rfl rfl rfl) rfl rfl ?_
                refine J.y (op_pickF rfl rfl rfl) rfl rfl rfl ?_
                refine J.nil ?_
                refine J.then_n (J.k hK37 ?_)
                refine J.keepE [(3, _), (5, _), (8, _), (86, _)] ⟨rfl, rfl, rfl, rfl, trivial⟩ ?_
                refine J.condF rfl rfl ?_
                refine J.skip ?_
                refine J.then_n (J.k hK36 ?_)
                refine J.keepE [(3, _), (5, _), (8, _)] ⟨rfl, rfl, rfl, trivial⟩ ?_
                refine J.seq (fun K40 hK40 => ?_)
                refine J.region ?_
                refine J.y (op_assign rfl rfl) rfl rfl rfl ?_
                refine J.y (op_assign rfl rfl) rfl rfl rfl ?_
                refine J.nil ?_
                refine J.then_n (J.k hK40 ?_)
                refine J.keepE [(3, _), (5, _), (6, _), (7, _), (8, _)] ⟨rfl, rfl, rfl, rfl, rfl, trivial⟩ ?_
                refine J.exit ?_
                refine J.then_x ?_
                refine J.blk_eq ?_
                refine J.then_n (J.k hK14 ?_)
                refine J.keepE [(3, _), (5, _), (6, _), (7, _), (8, _)] ⟨rfl, rfl, rfl, rfl, rfl, trivial⟩ ?_
                refine J.region ?_
                refine J.y (op_move rfl rfl) rfl rfl rfl ?_
                refine J.y ((op_add rfl rfl rfl (by first | omega | (simp only [List.length_append, List.length_cons, List.length_nil, List.length_take, List.length_drop] at *; omega))).as (v' := I ((i + 1 : Nat) : Int)) (congrArg I (by omega))) rfl rfl rfl ?_
                refine J.y (op_assign rfl rfl) rfl rfl rfl ?_
                refine J.nil ?_
                refine J.then_n ?_
                exact J.kk (i + 1, a, 0, false) (fun η (hη : _ ∧ (rlo s).length + 1 - η.1 < (rlo s).length + 1 - i) => hI0 η hη.1 hη.2) ⟨⟨by first | exact whyI_let hi (by omega) (by unfold sepr; rw [decide_eq_true_eq]; omega) (by omega) | exact whyI_end hi (by omega) (by simpa using h60) (good_yes (by omega)) | exact whyI_sep hi (by omega) (by unfold sepr; rw [decide_eq_true_eq]; omega) (by simpa using h60) (good_yes (by omega)) (by first | rw [if_pos (by omega)] | rw [if_neg (by omega)]), by dsimp only; omega⟩, by first | omega | (dsimp only; omega)⟩ ⟨rfl, rfl, rfl, rfl, rfl, trivial⟩ (fun _ h => h)
        ·
          refine J.yg (Wan.is rfl rfl rfl rfl rfl) (op_move rfl rfl) rfl rfl ?_
          refine J.yg (Wan.is rfl rfl rfl rfl rfl) (op_move rfl rfl) rfl rfl ?_
          refine J.yg (Wan.is rfl rfl rfl rfl rfl) (op_indexAddr (i := i) rfl rfl rfl Tryd.underlying27 Tryd.sizeOf3 h12.sl (by first | omega | (simp only [List.length_append, List.length_cons, List.length_nil, List.length_take, List.length_drop] at *; omega))) rfl rfl ?_
          refine J.yg (Wan.is rfl rfl rfl rfl rfl) (op_load rfl rfl Tryd.isAgg3 (m := m12) (by simp) (h12.sl.elem (natsV_get (by first | omega | (simp only [List.length_append, List.length_cons, List.length_nil, List.length_take, List.length_drop] at *; omega))))) rfl rfl ?_
          refine J.yg (Wan.is rfl rfl rfl rfl rfl) (op_eql rfl rfl rfl) rfl rfl ?_
          refine J.y (op_pickF rfl rfl rfl) rfl rfl rfl ?_
          refine J.y (op_move rfl rfl) rfl rfl rfl ?_
          refine J.split (d := 37) rfl (fun h37 => ?_) (fun h37 => ?_)
          ·
            refine J.no (Wan.is rfl rfl rfl rfl rfl) rfl rfl ?_
            refine J.no (Wan.is rfl rfl rfl rfl rfl) rfl rfl ?_
            refine J.no (Wan.is rfl rfl rfl rfl rfl) rfl rfl ?_
            refine J.no (Wan.is rfl rfl rfl rfl rfl) rfl rfl ?_
            refine J.no (Wan.is rfl rfl rfl rfl rfl) rfl rfl ?_
            refine J.y (op_pickT rfl rfl rfl) rfl rfl rfl ?_
            refine J.y (op_move rfl rfl) rfl rfl rfl ?_
            refine J.no (Wan.is rfl rfl rfl rfl rfl) rfl rfl ?_
            refine J.no (Wan.is rfl rfl rfl rfl rfl) rfl rfl ?_
            refine J.no (Wan.is rfl rfl rfl rfl rfl) rfl rfl ?_
            refine J.no (Wan.is rfl rfl rfl rfl rfl) rfl rfl ?_
            refine J.no (Wan.is rfl rfl rfl rfl rfl) rfl rfl ?_
            refine J.y (op_pickT rfl rfl rfl) rfl rfl rfl ?_
            refine J.y (op_move rfl rfl) rfl rfl rfl ?_
            refine J.no (Wan.is rfl rfl rfl rfl rfl) rfl rfl ?_
            refine J.no (Wan.is rfl rfl rfl rfl rfl) rfl rfl ?_
            refine J.no (Wan.is rfl rfl rfl rfl rfl) rfl rfl ?_
            refine J.no (Wan.is rfl rfl rfl rfl rfl) rfl rfl ?_
            refine J.no (Wan.is rfl rfl rfl rfl rfl) rfl rfl ?_
            refine J.y (op_pickT rfl rfl rfl) rfl rfl rfl ?_
            refine J.nil ?_
            refine J.then_n (J.k hK16 ?_)
            refine J.keepE [(3, _), (5, _), (6, _), (7, _), (8, _), (57, _)] ⟨rfl, rfl, rfl, rfl, rfl, rfl, trivial⟩ ?_
            refine J.condT rfl rfl ?_
            refine J.seq (fun K41 hK41 => ?_)
            refine J.seq (fun K42 hK42 => ?_)
            refine J.region ?_
            refine J.y (op_move rfl rfl) rfl rfl rfl ?_
            refine J.y (op_not rfl rfl) rfl rfl rfl ?_
            refine J.y (op_move rfl rfl) rfl rfl rfl ?_
            refine J.splitB (d := 60) rfl (fun h60 => ?_) (fun h60 => ?_)
            ·
              refine J.no (Wan.is rfl rfl rfl rfl rfl) rfl rfl ?_
              refine J.no (Wan.is rfl rfl rfl rfl rfl) rfl rfl ?_
              refine J.no (Wan.is rfl rfl rfl rfl rfl) rfl rfl ?_
              refine J.no (Wan.un rfl rfl rfl rfl) rfl rfl ?_
              refine J.no (Wan.un rfl rfl rfl rfl) rfl rfl ?_
              refine J.no (Wan.is rfl rfl rfl rfl rfl) rfl rfl ?_
              refine J.no (Wan.is rfl rfl rfl rfl rfl) rfl rfl ?_
              refine J.no (Wan.un rfl rfl rfl rfl) rfl rfl ?_
              refine J.no (Wan.un rfl rfl rfl rfl) rfl rfl ?_
              refine J.no (Wan.is rfl rfl rfl rfl rfl) rfl rfl ?_
              refine J.no (Wan.is rfl rfl rfl rfl rfl) rfl rfl ?_
              refine J.no (Wan.un rfl rfl rfl rfl) rfl rfl ?_
              refine J.no (Wan.un rfl rfl rfl rfl) rfl rfl ?_
              refine J.no (Wan.is rfl rfl rfl rfl rfl) rfl rfl ?_
              refine J.y (op_pickT rfl rfl rfl) rfl rfl rfl ?_
              refine J.nil ?_
              refine J.then_n (J.k hK42 ?_)
              refine J.keepE [(3, _), (5, _), (8, _), (75, _)] ⟨rfl, rfl, rfl, rfl, trivial⟩ ?_
              refine J.condT rfl rfl ?_
              refine J.seq (fun K43 hK43 => ?_)
              refine J.region ?_
              refine J.y (op_assign rfl rfl) rfl rfl rfl ?_
              refine J.nil ?_
              refine J.then_n (J.k hK43 ?_)
              refine J.keepE [(2, _)] ⟨rfl, trivial⟩ ?_
              refine J.ret ?_
              refine J.then_r ?_
              refine J.then_r ?_
              refine J.blk_r ?_
              refine J.then_r ?_
              refine J.then_r ?_
              refine J.blk_r ?_
              refine J.then_r ?_
              exact J.done hw0 (fun _ _ h => h) (res1 rfl rfl) (retOk () (by first | (exfalso; omega) | exact why_is5 hwn (whyI_bad hi (by omega) (by first | (left; omega) | (right; exact (by unfold sepr; rw [decide_eq_true_eq]; omega))) (by first | (left; simpa using h60) | (right; exact good_no (by omega)))) | exact why_is5 hwn (whyI_bad2 hi (by omega) (by unfold sepr; rw [decide_eq_true_eq]; omega) (by omega)) | exact why_is5 hwn ((whyI_fin hi (by omega)).trans (decide_eq_false (by omega))) | exact why_is0 hwn ((whyI_fin hi (by omega)).trans (decide_eq_true (by omega)))) trivial [0] rfl (by decide))
            ·
              refine J.yg (Wan.is rfl rfl rfl rfl rfl) (op_move rfl rfl) rfl rfl ?_
              refine J.yg (Wan.is rfl rfl rfl rfl rfl) (op_neq rfl rfl rfl) rfl rfl ?_
              refine J.yg (Wan.is rfl rfl rfl rfl rfl) (op_move rfl rfl) rfl rfl ?_
              refine J.split (d := 63) rfl (fun h63 => ?_) (fun h63 => ?_)
              ·
                refine J.yg (Wan.is rfl rfl rfl rfl rfl) (op_move rfl rfl) rfl rfl ?_
                refine J.yg (Wan.is rfl rfl rfl rfl rfl) (op_neq rfl rfl rfl) rfl rfl ?_
                refine J.yg (Wan.is rfl rfl rfl rfl rfl) (op_pickT rfl rfl rfl) rfl rfl ?_
                refine J.yg (Wan.is rfl rfl rfl rfl rfl) (op_move rfl rfl) rfl rfl ?_
                refine J.split (d := 67) rfl (fun h67 => ?_) (fun h67 => ?_)
                ·
                  refine J.yg (Wan.is rfl rfl rfl rfl rfl) (op_move rfl rfl) rfl rfl ?_
                  refine J.yg (Wan.is rfl rfl rfl rfl rfl) (op_neq rfl rfl rfl) rfl rfl ?_
                  refine J.yg (Wan.is rfl rfl rfl rfl rfl) (op_pickT rfl rfl rfl) rfl rfl ?_
                  refine J.yg (Wan.is rfl rfl rfl rfl rfl) (op_move rfl rfl) rfl rfl ?_
                  refine J.split (d := 71) rfl (fun h71 => ?_) (fun h71 => ?_)
                  ·
                    refine J.yg (Wan.is rfl rfl rfl rfl rfl) (op_move rfl rfl) rfl rfl ?_
                    refine J.yg (Wan.is rfl rfl rfl rfl rfl) (op_neq rfl rfl rfl) rfl rfl ?_
                    refine J.yg (Wan.is rfl rfl rfl rfl rfl) (op_pickT rfl rfl rfl) rfl rfl ?_
                    refine J.y (op_pickF rfl rfl rfl) rfl rfl rfl ?_
                    refine J.nil ?_
                    refine J.then_n (J.k hK42 ?_)
                    refine J.keepE [(3, _), (5, _), (8, _), (75, _)] ⟨rfl, rfl, rfl, rfl, trivial⟩ ?_
                    refine J.ite rfl (fun h75 => ?_) (fun h75 => ?_)
                    ·
                      refine J.seq (fun K44 hK44 => ?_)
                      refine J.region ?_
                      refine J.y (op_assign rfl rfl) rfl rfl rfl ?_
                      refine J.nil ?_
                      refine J.then_n (J.k hK44 ?_)
                      refine J.keepE [(2, _)] ⟨rfl, trivial⟩ ?_
                      refine J.ret ?_
                      refine J.then_r ?_
                      refine J.then_r ?_
                      refine J.blk_r ?_
                      refine J.then_r ?_
                      refine J.then_r ?_
                      refine J.blk_r ?_
                      refine J.then_r ?_
                      exact J.done hw0 (fun _ _ h => h) (res1 rfl rfl) (retOk () (by first | (exfalso; omega) | exact why_is5 hwn (whyI_bad hi (by omega) (by first | (left; omega) | (right; exact (by unfold sepr; rw [decide_eq_true_eq]; omega))) (by first | (left; simpa using h60) | (right; exact good_no (by omega)))) | exact why_is5 hwn (whyI_bad2 hi (by omega) (by unfold sepr; rw [decide_eq_true_eq]; omega) (by omega)) | exact why_is5 hwn ((whyI_fin hi (by omega)).trans (decide_eq_false (by omega))) | exact why_is0 hwn ((whyI_fin hi (by omega)).trans (decide_eq_true (by omega)))) trivial [0] rfl (by decide))
                    ·
                      refine J.skip ?_
                      refine J.then_n (J.k hK41 ?_)
                      refine J.keepE [(3, _), (5, _), (8, _)] ⟨rfl, rfl, rfl, trivial⟩ ?_
                      refine J.seq (fun K45 hK45 => ?_)
                      refine J.seq (fun K46 hK46 => ?_)
                      refine J.region ?_
                      refine J.y (op_move rfl rfl) rfl rfl rfl ?_
                      refine J.y (op_move rfl rfl) rfl rfl rfl ?_
                      refine J.y (op_len Tryd.underlying27 rfl rfl) rfl rfl rfl ?_
                      refine J.y (op_lss rfl rfl rfl) rfl rfl rfl ?_
                      refine J.y (op_move rfl rfl) rfl rfl rfl ?_
                      refine J.split (d := 80) rfl (fun h80 => ?_) (fun h80 => ?_)
                      ·
                        refine J.yg (Wan.is rfl rfl rfl rfl rfl) (op_move rfl rfl) rfl rfl ?_
                        refine J.yg (Wan.is rfl rfl rfl rfl rfl) (op_move rfl rfl) rfl rfl ?_
                        refine J.yg (Wan.is rfl rfl rfl rfl rfl) (op_indexAddr (i := i) rfl rfl rfl Tryd.underlying27 Tryd.sizeOf3 h12.sl (by first | omega | (simp only [List.length_append, List.length_cons, List.length_nil, List.length_take, List.length_drop] at *; omega))) rfl rfl ?_
                        refine J.yg (Wan.is rfl rfl rfl rfl rfl) (op_load rfl rfl Tryd.isAgg3 (m := m12) (by simp) (h12.sl.elem (natsV_get (by first | omega | (simp only [List.length_append, List.length_cons, List.length_nil, List.length_take, List.length_drop] at *; omega))))) rfl rfl ?_
                        refine J.yg (Wan.is rfl rfl rfl rfl rfl) (op_eql rfl rfl rfl) rfl rfl ?_
                        refine J.y (op_pickT rfl rfl rfl) rfl rfl rfl ?_
                        refine J.nil ?_
                        refine J.then_n (J.k hK46 ?_)
                        refine J.keepE [(3, _), (5, _), (8, _), (86, _)] ⟨rfl, rfl, rfl, rfl, trivial⟩ ?_
                        refine J.ite rfl (fun h86 => ?_) (fun h86 => ?_)
                        ·
                          refine J.region ?_
                          refine J.y (op_move rfl rfl) rfl rfl rfl ?_
                          refine J.y ((op_add rfl rfl rfl (by first | omega | (simp only [List.length_append, List.length_cons, List.length_nil, List.length_take, List.length_drop] at *; omega))).as (v' := I ((a + 1 : Nat) : Int)) (congrArg I (by omega))) rfl rfl rfl ?_
                          refine J.y (op_assign rfl rfl) rfl rfl rfl ?_
                          refine J.nil ?_
                          refine J.then_n (J.k hK45 ?_)
                          refine J.keepE [(3, _), (5, _), (8, _)] ⟨rfl, rfl, rfl, trivial⟩ ?_
                          refine J.seq (fun K47 hK47 => ?_)
                          refine J.region ?_
                          refine J.y (op_assign rfl rfl) rfl rfl rfl ?_
                          refine J.y (op_assign rfl rfl) rfl rfl rfl ?_
                          refine J.nil ?_
                          refine J.then_n (J.k hK47 ?_)
                          refine J.keepE [(3, _), (5, _), (6, _), (7, _), (8, _)] ⟨rfl, rfl, rfl, rfl, rfl, trivial⟩ ?_
                          refine J.exit ?_
                          refine J.then_x ?_
                          refine J.blk_eq ?_
                          refine J.then_n (J.k hK14 ?_)
                          refine J.keepE [(3, _), (5, _), (6, _), (7, _), (8, _)] ⟨rfl, rfl, rfl, rfl, rfl, trivial⟩ ?_
                          refine J.region ?_
                          refine J.y (op_move rfl rfl) rfl rfl rfl ?_
                          refine J.y ((op_add rfl rfl rfl (by first | omega | (simp only [List.length_append, List.length_cons, List.length_nil, List.length_take, List.length_drop] at *; omega))).as (v' := I ((i + 1 : Nat) : Int)) (congrArg I (by omega))) rfl rfl rfl ?_
                          refine J.y (op_assign rfl rfl) rfl rfl rfl ?_
                          refine J.nil ?_
                          refine J.then_n ?_
                          exact J.kk (i + 1, a + 1, 0, false) (fun η (hη : _ ∧ (rlo s).length + 1 - η.1 < (rlo s).length + 1 - i) => hI0 η hη.1 hη.2) ⟨⟨by first | exact whyI_let hi (by omega) (by unfold sepr; rw [decide_eq_true_eq]; omega) (by omega) | exact whyI_end hi (by omega) (by simpa using h60) (good_yes (by omega)) | exact whyI_sep hi (by omega) (by unfold sepr; rw [decide_eq_true_eq]; omega) (by simpa using h60) (good_yes (by omega)) (by first | rw [if_pos (by omega)] | rw [if_neg (by omega)]), by dsimp only; omega⟩, by first | omega | (dsimp only; omega)⟩ ⟨rfl, rfl, rfl, rfl, rfl, trivial⟩ (fun _ h => h)
                        ·
                          refine J.skip ?_
                          refine J.then_n (J.k hK45 ?_)
                          refine J.keepE [(3, _), (5, _), (8, _)] ⟨rfl, rfl, rfl, trivial⟩ ?_
                          refine J.seq (fun K48 hK48 => ?_)
                          refine J.region ?_
                          refine J.y (op_assign rfl rfl) rfl rfl rfl ?_
                          refine J.y (op_assign rfl rfl) rfl rfl rfl ?_
                          refine J.nil ?_
                          refine J.then_n (J.k hK48 ?_)
                          refine J.keepE [(3, _), (5, _), (6, _), (7, _), (8, _)] ⟨rfl, rfl, rfl, rfl, rfl, trivial⟩ ?_
                          refine J.exit ?_
                          refine J.then_x ?_
                          refine J.blk_eq ?_
                          refine J.then_n (J.k hK14 ?_)
                          refine J.keepE [(3, _), (5, _), (6, _), (7, _), (8, _)] ⟨rfl, rfl, rfl, rfl, rfl, trivial⟩ ?_
                          refine J.region ?_
                          refine J.y (op_move rfl rfl) rfl rfl rfl ?_
                          refine J.y ((op_add rfl rfl rfl (by first | omega | (simp only [List.length_append, List.length_cons, List.length_nil, List.length_take, List.length_drop] at *; omega))).as (v' := I ((i + 1 : Nat) : Int)) (congrArg I (by omega))) rfl rfl rfl ?_
                          refine J.y (op_assign rfl rfl) rfl rfl rfl ?_
                          refine J.nil ?_
                          refine J.then_n ?_
                          exact J.kk (i + 1, a, 0, false) (fun η (hη : _ ∧ (rlo s).length + 1 - η.1 < (rlo s).length + 1 - i) => hI0 η hη.1 hη.2) ⟨⟨by first | exact whyI_let hi (by omega) (by unfold sepr; rw [decide_eq_true_eq]; omega) (by omega) | exact whyI_end hi (by omega) (by simpa using h60) (good_yes (by omega)) | exact whyI_sep hi (by omega) (by unfold sepr; rw [decide_eq_true_eq]; omega) (by simpa using h60) (good_yes (by omega)) (by first | rw [if_pos (by omega)] | rw [if_neg (by omega)]), by dsimp only; omega⟩, by first | omega | (dsimp only; omega)⟩ ⟨rfl, rfl, rfl, rfl, rfl, trivial⟩ (fun _ h => h)
                      ·
                        refine J.no (Wan.is rfl rfl rfl rfl rfl) rfl rfl ?_
                        refine J.no (Wan.is rfl rfl rfl rfl rfl) rfl rfl ?_
                        refine J.no (Wan.is rfl rfl rfl rfl rfl) rfl rfl ?_
                        refine J.no (Wan.is rfl rfl rfl rfl rfl) rfl rfl ?_
                        refine J.no (Wan.is rfl rfl rfl rfl rfl) rfl rfl ?_
                        refine J.y (op_pickF rfl rfl rfl) rfl rfl rfl ?_
                        refine J.nil ?_
                        refine J.then_n (J.k hK46 ?_)
                        refine J.keepE [(3, _), (5, _), (8, _), (86, _)] ⟨rfl, rfl, rfl, rfl, trivial⟩ ?_
                        refine J.condF rfl rfl ?_
                        refine J.skip ?_
                        refine J.then_n (J.k hK45 ?_)
                        refine J.keepE [(3, _), (5, _), (8, _)] ⟨rfl, rfl, rfl, trivial⟩ ?_
                        refine J.seq (fun K49 hK49 => ?_)
                        refine J.region ?_
                        refine J.y (op_assign rfl rfl) rfl rfl rfl ?_
                        refine J.y (op_assign rfl rfl) rfl rfl rfl ?_
                        refine J.nil ?_
                        refine J.then_n (J.k hK49 ?_)
                        refine J.keepE [(3, _), (5, _), (6, _), (7, _), (8, _)] ⟨rfl, rfl, rfl, rfl, rfl, trivial⟩ ?_
                        refine J.exit ?_
                        refine J.then_x ?_
                        refine J.blk_eq ?_
                        refine J.then_n (J.k hK14 ?_)
                        refine J.keepE [(3, _), (5, _), (6, _), (7, _), (8, _)] ⟨rfl, rfl, rfl, rfl, rfl, trivial⟩ ?_
                        refine J.region ?_
                        refine J.y (op_move rfl rfl) rfl rfl rfl ?_
                        refine J.y ((op_add rfl rfl rfl (by first | omega | (simp only [List.length_append, List.length_cons, List.length_nil, List.length_take, List.length_drop] at *; omega))).as (v' := I ((i + 1 : Nat) : Int)) (congrArg I (by omega))) rfl rfl rfl ?_
                        refine J.y (op_assign rfl rfl) rfl rfl rfl ?_
                        refine J.nil ?_
                        refine J.then_n ?_
                        exact J.kk (i + 1, a, 0, false) (fun η (hη : _ ∧ (rlo s).length + 1 - η.1 < (rlo s).length + 1 - i) => hI0 η hη.1 hη.2) ⟨⟨by first | exact whyI_let hi (by omega) (by unfold sepr; rw [decide_eq_true_eq]; omega) (by omega) | exact whyI_end hi (by omega) (by simpa using h60) (good_yes (by omega)) | exact whyI_sep hi (by omega) (by unfold sepr; rw [decide_eq_true_eq]; omega) (by simpa using h60) (good_yes (by omega)) (by first | rw [if_pos (by omega)] | rw [if_neg (by omega)]), by dsimp only; omega⟩, by first | omega | (dsimp only; omega)⟩ ⟨rfl, rfl, rfl, rfl, rfl, trivial⟩ (fun _ h => h)
                  ·
                    refine J.no (Wan.is rfl rfl rfl rfl rfl) rfl rfl ?_
                    refine J.no (Wan.is rfl rfl rfl rfl rfl) rfl rfl ?_
                    refine J.yg (Wan.is rfl rfl rfl rfl rfl) (op_pickF rfl rfl rfl) rfl rfl ?_
                    refine J.y (op_pickF rfl rfl rfl) rfl rfl rfl ?_
                    refine J.nil ?_
                    refine J.then_n (J.k hK42 ?_)
                    refine J.keepE [(3, _), (5, _), (8, _), (75, _)] ⟨rfl, rfl, rfl, rfl, trivial⟩ ?_
                    refine J.condF rfl rfl ?_
                    refine J.skip ?_
                    refine J.then_n (J.k hK41 ?_)
                    refine J.keepE [(3, _), (5, _), (8, _)] ⟨rfl, rfl, rfl, trivial⟩ ?_
                    refine J.seq (fun K50 hK50 => ?_)
                    refine J.seq (fun K51 hK51 => ?_)
                    refine J.region ?_
                    refine J.y (op_move rfl rfl) rfl rfl rfl ?_
                    refine J.y (op_move rfl rfl) rfl rfl rfl ?_
                    refine J.y (op_len Tryd.underlying27 rfl rfl) rfl rfl rfl ?_
                    refine J.y (op_lss rfl rfl rfl) rfl rfl rfl ?_
                    refine J.y (op_move rfl rfl) rfl rfl rfl ?_
                    refine J.split (d := 80) rfl (fun h80 => ?_) (fun h80 => ?_)
                    ·
                      refine J.yg (Wan.is rfl rfl rfl rfl rfl) (op_move rfl rfl) rfl rfl ?_
                      refine J.yg (Wan.is rfl rfl rfl rfl rfl) (op_move rfl rfl) rfl rfl ?_
                      refine J.yg (Wan.is rfl rfl rfl rfl rfl) (op_indexAddr (i := i) rfl rfl rfl Tryd.underlying27 Tryd.sizeOf3 h12.sl (by first | omega | (simp only [List.length_append, List.length_cons, List.length_nil, List.length_take, List.length_drop] at *; omega))) rfl rfl ?_
                      refine J.yg (Wan.is rfl rfl rfl rfl rfl) (op_load rfl rfl Tryd.isAgg3 (m := m12) (by simp) (h12.sl.elem (natsV_get (by first | omega | (simp only [List.length_append, List.length_cons, List.length_nil, List.length_take, List.length_drop] at *; omega))))) rfl rfl ?_
                      refine J.yg (Wan.is rfl rfl rfl rfl rfl) (op_eql rfl rfl rfl) rfl rfl ?_
                      refine J.y (op_pickT rfl rfl rfl) rfl rfl rfl ?_
                      refine J.nil ?_
                      refine J.then_n (J.k hK51 ?_)
                      refine J.keepE [(3, _), (5, _), (8, _), (86, _)] ⟨rfl, rfl, rfl, rfl, trivial⟩ ?_
                      refine J.ite rfl (fun h86 => ?_) (fun h86 => ?_)
                      ·
                        refine J.region ?_
                        refine J.y (op_move rfl rfl) rfl rfl rfl ?_
                        refine J.y ((op_add rfl rfl rfl (by first | omega | (simp only [List.length_append, List.length_cons, List.length_nil, List.length_take, List.length_drop] at *; omega))).as (v' := I ((a + 1 : Nat) : Int)) (congrArg I (by omega))) rfl rfl rfl ?_
                        refine J.y (op_assign rfl rfl) rfl rfl rfl ?_
                        refine J.nil ?_
                        refine J.then_n (J.k hK50 ?_)
                        refine J.keepE [(3, _), (5, _), (8, _)] ⟨rfl, rfl, rfl, trivial⟩ ?_
                        refine J.seq (fun K52 hK52 => ?_)
                        refine J.region ?_
                        refine J.y (op_assign rfl rfl) rfl rfl rfl ?_
                        refine J.y (op_assign rfl rfl) rfl rfl rfl ?_
                        refine J.nil ?_
                        refine J.then_n (J.k hK52 ?_)
                        refine J.keepE [(3, _), (5, _), (6, _), (7, _), (8, _)] ⟨rfl, rfl, rfl, rfl, rfl, trivial⟩ ?_
                        refine J.exit ?_
                        refine J.then_x ?_
                        refine J.blk_eq ?_
                        refine J.then_n (J.k hK14 ?_)
                        refine J.keepE [(3, _), (5, _), (6, _), (7, _), (8, _)] ⟨rfl, rfl, rfl, rfl, rfl, trivial⟩ ?_
                        refine J.region ?_
                        refine J.y (op_move rfl rfl) rfl rfl rfl ?_
                        refine J.y ((op_add rfl rfl rfl (by first | omega | (simp only [List.length_append, List.length_cons, List.length_nil, List.length_take, List.length_drop] at *; omega))).as (v' := I ((i + 1 : Nat) : Int)) (congrArg I (by omega))) rfl rfl rfl ?_
                        refine J.y (op_assign rfl rfl) rfl rfl rfl ?_
                        refine J.nil ?_
                        refine J.then_n ?_
                        exact J.kk (i + 1, a + 1, 0, false) (fun η (hη : _ ∧ (rlo s).length + 1 - η.1 < (rlo s).length + 1 - i) => hI0 η hη.1 hη.2) ⟨⟨by first | exact whyI_let hi (by omega) (by unfold sepr; rw [decide_eq_true_eq]; omega) (by omega) | exact whyI_end hi (by omega) (by simpa using h60) (good_yes (by omega)) | exact whyI_sep hi (by omega) (by unfold sepr; rw [decide_eq_true_eq]; omega) (by simpa using h60) (good_yes (by omega)) (by first | rw [if_pos (by omega)] | rw [if_neg (by omega)]), by dsimp only; omega⟩, by first | omega | (dsimp only; omega)⟩ ⟨rfl, rfl, rfl, rfl, rfl, trivial⟩ (fun _ h => h)
                      ·
                        refine J.skip ?_
                        refine J.then_n (J.k hK50 ?_)
                        refine J.keepE [(3, _), (5, _), (8, _)] ⟨rfl, rfl, rfl, trivial⟩ ?_
                        refine J.seq (fun K53 hK53 => ?_)
                        refine J.region ?_
                        refine J.y (op_assign rfl rfl) rfl rfl rfl ?_
                        refine J.y (op_assign rfl rfl) rfl rfl rfl ?_
                        refine J.nil ?_
                        refine J.then_n (J.k hK53 ?_)
                        refine J.keepE [(3, _), (5, _), (6, _), (7, _), (8, _)] ⟨rfl, rfl, rfl, rfl, rfl, trivial⟩ ?_
                        refine J.exit ?_
                        refine J.then_x ?_
                        refine J.blk_eq ?_
                        refine J.then_n (J.k hK14 ?_)
                        refine J.keepE [(3, _), (5, _), (6, _), (7, _), (8, _)] ⟨rfl, rfl, rfl, rfl, rfl, trivial⟩ ?_
                        refine J.region ?_
                        refine J.y (op_move rfl rfl) rfl rfl rfl ?_
                        refine J.y ((op_add rfl rfl rfl (by first | omega | (simp only [List.length_append, List.length_cons, List.length_nil, List.length_take, List.length_drop] at *; omega))).as (v' := I ((i + 1 : Nat) : Int)) (congrArg I (by omega))) rfl rfl rfl ?_
                        refine J.y (op_assign rfl rfl) rfl rfl rfl ?_
                        refine J.nil ?_
                        refine J.then_n ?_
                        exact J.kk (i + 1, a, 0, false) (fun η (hη : _ ∧ (rlo s).length + 1 - η.1 < (rlo s).length + 1 - i) => hI0 η hη.1 hη.2) ⟨⟨by first | exact whyI_let hi (by omega) (by unfold sepr; rw [decide_eq_true_eq]; omega) (by omega) | exact whyI_end hi (by omega) (by simpa using h60) (good_yes (by omega)) | exact whyI_sep hi (by omega) (by unfold sepr; rw [decide_eq_true_eq]; omega) (by simpa using h60) (good_yes (by omega)) (by first | rw [if_pos (by omega)] | rw [if_neg (by omega)]), by dsimp only; omega⟩, by first | omega | (dsimp only; omega)⟩ ⟨rfl, rfl, rfl, rfl, rfl, trivial⟩ (fun _ h => h)
                    ·
                      refine J.no (Wan.is rfl rfl rfl rfl rfl) rfl rfl ?_
                      refine J.no (Wan.is rfl rfl rfl rfl rfl) rfl rfl ?_
                      refine J.no (Wan.is rfl rfl rfl rfl rfl) rfl rfl ?_
                      refine J.no (Wan.is rfl rfl rfl rfl rfl) rfl rfl ?_
                      refine J.no (Wan.is rfl rfl rfl rfl rfl) rfl rfl ?_
                      refine J.y (op_pickF rfl rfl rfl) rfl rfl rfl ?_
                      refine J.nil ?_
                      refine J.then_n (J.k hK51 ?_)
                      refine J.keepE [(3, _), (5, _), (8, _), (86, _)] ⟨rfl, rfl, rfl, rfl, trivial⟩ ?_
                      refine J.condF rfl rfl ?_
                      refine J.skip ?_
                      refine J.then_n (J.k hK50 ?_)
                      refine J.keepE [(3, _), (5, _), (8, _)] ⟨rfl, rfl, rfl, trivial⟩ ?_
                      refine J.seq (fun K54 hK54 => ?_)
                      refine J.region ?_
                      refine J.y (op_assign rfl rfl) rfl rfl rfl ?_
                      refine J.y (op_assign rfl rfl) rfl rfl rfl ?_
                      refine J.nil ?_
                      refine J.then_n (J.k hK54 ?_)
                      refine J.keepE [(3, _), (5, _), (6, _), (7, _), (8, _)] ⟨rfl, rfl, rfl, rfl, rfl, trivial⟩ ?_
                      refine J.exit ?_
                      refine J.then_x ?_
                      refine J.blk_eq ?_
                      refine J.then_n (J.k hK14 ?_)
                      refine J.keepE [(3, _), (5, _), (6, _), (7, _), (8, _)] ⟨rfl, rfl, rfl, rfl, rfl, trivial⟩ ?_
                      refine J.region ?_
                      refine J.y (op_move rfl rfl) rfl rfl rfl ?_
                      refine J.y ((op_add rfl rfl rfl (by first | omega | (simp only [List.length_append, List.length_cons, List.length_nil, List.length_take, List.length_drop] at *; omega))).as (v' := I ((i + 1 : Nat) : Int)) (congrArg I (by omega))) rfl rfl rfl ?_
                      refine J.y (op_assign rfl rfl) rfl rfl rfl ?_
                      refine J.nil ?_
                      refine J.then_n ?_
                      exact J.kk (i + 1, a, 0, false) (fun η (hη : _ ∧ (rlo s).length + 1 - η.1 < (rlo s).length + 1 - i) => hI0 η hη.1 hη.2) ⟨⟨by first | exact whyI_let hi (by omega) (by unfold sepr; rw [decide_eq_true_eq]; omega) (by omega) | exact whyI_end hi (by omega) (by simpa using h60) (good_yes (by omega)) | exact whyI_sep hi (by omega) (by unfold sepr; rw [decide_eq_true_eq]; omega) (by simpa using h60) (good_yes (by omega)) (by first | rw [if_pos (by omega)] | rw [if_neg (by omega)]), by dsimp only; omega⟩, by first | omega | (dsimp only; omega)⟩ ⟨rfl, rfl, rfl, rfl, rfl, trivial⟩ (fun _ h => h)
                ·
                  refine J.no (Wan.is rfl rfl rfl rfl rfl) rfl rfl ?_
                  refine J.no (Wan.is rfl rfl rfl rfl rfl) rfl rfl ?_
                  refine J.yg (Wan.is rfl rfl rfl rfl rfl) (op_pickF rfl rfl rfl) rfl rfl ?_
                  refine J.yg (Wan.is rfl rfl rfl rfl rfl) (op_move rfl rfl) rfl rfl ?_
                  refine J.no (Wan.is rfl rfl rfl rfl rfl) rfl rfl ?_
                  refine J.no (Wan.is rfl rfl rfl rfl rfl) rfl rfl ?_
                  refine J.yg (Wan.is rfl rfl rfl rfl rfl) (op_pickF rfl rfl rfl) rfl rfl ?_
                  refine J.y (op_pickF rfl rfl rfl) rfl rfl rfl ?_
                  refine J.nil ?_
                  refine J.then_n (J.k hK42 ?_)
                  refine J.keepE [(3, _), (5, _), (8, _), (75, _)] ⟨rfl, rfl, rfl, rfl, trivial⟩ ?_
                  refine J.condF rfl rfl ?_
                  refine J.skip ?_
                  refine J.then_n (J.k hK41 ?_)
                  refine J.keepE [(3, _), (5, _), (8, _)] ⟨rfl, rfl, rfl, trivial⟩ ?_
                  refine J.seq (fun K55 hK55 => ?_)
                  refine J.seq (fun K56 hK56 => ?_)
                  refine J.region ?_
                  refine J.y (op_move rfl rfl) rfl rfl rfl ?_
                  refine J.y (op_move rfl rfl) rfl rfl rfl ?_
                  refine J.y (op_len Tryd.underlying27 rfl rfl) rfl rfl rfl ?_
                  refine J.y (op_lss rfl rfl rfl) rfl rfl rfl ?_
                  refine J.y (op_move rfl rfl) rfl rfl rfl ?_
                  refine J.split (d := 80) rfl (fun h80 => ?_) (fun h80 => ?_)
                  ·
                    refine J.yg (Wan.is rfl rfl rfl rfl rfl) (op_move rfl rfl) rfl rfl ?_
                    refine J.yg (Wan.is rfl rfl rfl rfl rfl) (op_move rfl rfl) rfl rfl ?_
                    refine J.yg (Wan.is rfl rfl rfl rfl rfl) (op_indexAddr (i := i) rfl rfl rfl Tryd.underlying27 Tryd.sizeOf3 h12.sl (by first | omega | (simp only [List.length_append, List.length_cons, List.length_nil, List.length_take, List.length_drop] at *; omega))) rfl rfl ?_
                    refine J.yg (Wan.is rfl rfl rfl rfl rfl) (op_load rfl rfl Tryd.isAgg3 (m := m12) (by simp) (h12.sl.elem (natsV_get (by first | omega | (simp only [List.length_append, List.length_cons, List.length_nil, List.length_take, List.length_drop] at *; omega))))) rfl rfl ?_
                    refine J.yg (Wan.is rfl rfl rfl rfl rfl) (op_eql rfl rfl rfl) rfl rfl ?_
                    refine J.y (op_pickT rfl rfl rfl) rfl rfl rfl ?_
                    refine J.nil ?_
                    refine J.then_n (J.k hK56 ?_)
                    refine J.keepE [(3, _), (5, _), (8, _), (86, _)] ⟨rfl, rfl, rfl, rfl, trivial⟩ ?_
                    refine J.ite rfl (fun h86 => ?_) (fun h86 => ?_)
                    ·
                      refine J.region ?_
                      refine J.y (op_move rfl rfl) rfl rfl rfl ?_
                      refine J.y ((op_add rfl rfl rfl (by first | omega | (simp only [List.length_append, List.length_cons, List.length_nil, List.length_take, List.length_drop] at *; omega))).as (v' := I ((a + 1 : Nat) : Int)) (congrArg I (by omega))) rfl rfl rfl ?_
                      refine J.y (op_assign rfl rfl) rfl rfl rfl ?_
                      refine J.nil ?_
                      refine J.then_n (J.k hK55 ?_)
                      refine J.keepE [(3, _), (5, _), (8, _)] ⟨rfl, rfl, rfl, trivial⟩ ?_
                      refine J.seq (fun K57 hK57 => ?_)
                      refine J.region ?_
                      refine J.y (op_assign rfl rfl) rfl rfl rfl ?_
                      refine J.y (op_assign rfl rfl) rfl rfl rfl ?_
                      refine J.nil ?_
                      refine J.then_n (J.k hK57 ?_)
                      refine J.keepE [(3, _), (5, _), (6, _), (7, _), (8, _)] ⟨rfl, rfl, rfl, rfl, rfl, trivial⟩ ?_
                      refine J.exit ?_
                      refine J.then_x ?_
                      refine J.blk_eq ?_
                      refine J.then_n (J.k hK14 ?_)
                      refine J.keepE [(3, _), (5, _), (6, _), (7, _), (8, _)] ⟨rfl, rfl, rfl, rfl, rfl, trivial⟩ ?_
                      refine J.region ?_
                      refine J.y (op_move rfl rfl) rfl rfl rfl ?_
                      refine J.y ((op_add rfl rfl rfl (by first | omega | (simp only [List.length_append, List.length_cons, List.length_nil, List.length_take, List.length_drop] at *; omega))).as (v' := I ((i + 1 : Nat) : Int)) (congrArg I (by omega))) rfl rfl rfl ?_
                      refine J.y (op_assign rfl rfl) rfl rfl rfl ?_
                      refine J.nil ?_
                      refine J.then_n ?_
                      exact J.kk (i + 1, a + 1, 0, false) (fun η (hη : _ ∧ (rlo s).length + 1 - η.1 < (rlo s).length + 1 - i) => hI0 η hη.1 hη.2) ⟨⟨by first | exact whyI_let hi (by omega) (by unfold sepr; rw [decide_eq_true_eq]; omega) (by omega) | exact whyI_end hi (by omega) (by simpa using h60) (good_yes (by omega)) | exact whyI_sep hi (by omega) (by unfold sepr; rw [decide_eq_true_eq]; omega) (by simpa using h60) (good_yes (by omega)) (by first | rw [if_pos (by omega)] | rw [if_neg (by omega)]), by dsimp only; omega⟩, by first | omega | (dsimp only; omega)⟩ ⟨rfl, rfl, rfl, rfl, rfl, trivial⟩ (fun _ h => h)
                    ·
                      refine J.skip ?_
                      refine J.then_n (J.k hK55 ?_)
                      refine J.keepE [(3, _), (5, _), (8, _)] ⟨rfl, rfl, rfl, trivial⟩ ?_
                      refine J.seq (fun K58 hK58 => ?_)
                      refine J.region ?_
                      refine J.y (op_assign rfl rfl) rfl rfl rfl ?_
                      refine J.y (op_assign rfl rfl) rfl rfl rfl ?_
                      refine J.nil ?_
                      refine J.then_n (J.k hK58 ?_)
                      refine J.keepE [(3, _), (5, _), (6, _), (7, _), (8, _)] ⟨rfl, rfl, rfl, rfl, rfl, trivial⟩ ?_
                      refine J.exit ?_
                      refine J.then_x ?_
                      refine J.blk_eq ?_
                      refine J.then_n (J.k hK14 ?_)
                      refine J.keepE [(3, _), (5, _), (6, _), (7, _), (8, _)] ⟨rfl, rfl, rfl, rfl, rfl, trivial⟩ ?_
                      refine J.region ?_
                      refine J.y (op_move rfl rfl) rfl rfl rfl ?_
                      refine J.y ((op_add rfl rfl rfl (by first | omega | (simp only [List.length_append, List.length_cons, List.length_nil, List.length_take, List.length_drop] at *; omega))).as (v' := I ((i + 1 : Nat) : Int)) (congrArg I (by omega))) rfl rfl rfl ?_
                      refine J.y (op_assign rfl rfl) rfl rfl rfl ?_
                      refine J.nil ?_
                      refine J.then_n ?_
                      exact J.kk (i + 1, a, 0, false) (fun η (hη : _ ∧ (rlo s).length + 1 - η.1 < (rlo s).length + 1 - i) => hI0 η hη.1 hη.2) ⟨⟨by first | exact whyI_let hi (by omega) (by unfold sepr; rw [decide_eq_true_eq]; omega) (by omega) | exact whyI_end hi (by omega) (by simpa using h60) (good_yes (by omega)) | exact whyI_sep hi (by omega) (by unfold sepr; rw [decide_eq_true_eq]; omega) (by simpa using h60) (good_yes (by omega)) (by first | rw [if_pos (by omega)] | rw [if_neg (by omega)]), by dsimp only; omega⟩, by first | omega | (dsimp only; omega)⟩ ⟨rfl, rfl, rfl, rfl, rfl, trivial⟩ (fun _ h => h)
                  ·
                    refine J.no (Wan.is rfl rfl rfl rfl rfl) rfl rfl ?_
                    refine J.no (Wan.is rfl rfl rfl rfl rfl) rfl rfl ?_
                    refine J.no (Wan.is rfl rfl rfl rfl rfl) rfl rfl ?_
                    refine J.no (Wan.is rfl rfl rfl rfl rfl) rfl rfl ?_
                    refine J.no (Wan.is rfl rfl rfl rfl rfl) rfl rfl ?_
                    refine J.y (op_pickF rfl rfl rfl) rfl rfl rfl ?_
                    refine J.nil ?_
                    refine J.then_n (J.k hK56 ?_)
                    refine J.keepE [(3, _), (5, _), (8, _), (86, _)] ⟨rfl, rfl, rfl, rfl, trivial⟩ ?_
                    refine J.condF rfl rfl ?_
                    refine J.skip ?_
                    refine J.then_n (J.k hK55 ?_)
                    refine J.keepE [(3, _), (5, _), (8, _)] ⟨rfl, rfl, rfl, trivial⟩ ?_
                    refine J.seq (fun K59 hK59 => ?_)
                    refine J.region ?_
                    refine J.y (op_assign rfl rfl) rfl rfl rfl ?_
                    refine J.y (op_assign rfl rfl) rfl rfl rfl ?_
                    refine J.nil ?_
                    refine J.then_n (J.k hK59 ?_)
                    refine J.keepE [(3, _), (5, _), (6, _), (7, _), (8, _)] ⟨rfl, rfl, rfl, rfl, rfl, trivial⟩ ?_
                    refine J.exit ?_
                    refine J.then_x ?_
                    refine J.blk_eq ?_
                    refine J.then_n (J.k hK14 ?_)
                    refine J.keepE [(3, _), (5, _), (6, _), (7, _), (8, _)] ⟨rfl, rfl, rfl, rfl, rfl, trivial⟩ ?_
                    refine J.region ?_
                    refine J.y (op_move rfl rfl) rfl rfl rfl ?_
                    refine J.y ((op_add rfl rfl rfl (by first | omega | (simp only [List.length_append, List.length_cons, List.length_nil, List.length_take, List.length_drop] at *; omega))).as (v' := I ((i + 1 : Nat) : Int)) (congrArg I (by omega))) rfl rfl rfl ?_
                    refine J.y (op_assign rfl rfl) rfl rfl rfl ?_
                    refine J.nil ?_
                    refine J.then_n ?_
                    exact J.kk (i + 1, a, 0, false) (fun η (hη : _ ∧ (rlo s).length + 1 - η.1 < (rlo s).length + 1 - i) => hI0 η hη.1 hη.2) ⟨⟨by first | exact whyI_let hi (by omega) (by unfold sepr; rw [decide_eq_true_eq]; omega) (by omega) | exact whyI_end hi (by omega) (by simpa using h60) (good_yes (by omega)) | exact whyI_sep hi (by omega) (by unfold sepr; rw [decide_eq_true_eq]; omega) (by simpa using h60) (good_yes (by omega)) (by first | rw [if_pos (by omega)] | rw [if_neg (by omega)]), by dsimp only; omega⟩, by first | omega | (dsimp only; omega)⟩ ⟨rfl, rfl, rfl, rfl, rfl, trivial⟩ (fun _ h => h)
              ·
                refine J.no (Wan.is rfl rfl rfl rfl rfl) rfl rfl ?_
                refine J.no (Wan.is rfl rfl rfl rfl rfl) rfl rfl ?_
                refine J.yg (Wan.is rfl rfl rfl rfl rfl) (op_pickF rfl rfl rfl) rfl rfl ?_
                refine J.yg (Wan.is rfl rfl rfl rfl rfl) (op_move rfl rfl) rfl rfl ?_
                refine J.no (Wan.is rfl rfl rfl rfl rfl) rfl rfl ?_
                refine J.no (Wan.is rfl rfl rfl rfl rfl) rfl rfl ?_
                refine J.yg (Wan.is rfl rfl rfl rfl rfl) (op_pickF rfl rfl rfl) rfl rfl ?_
                refine J.yg (Wan.is rfl rfl rfl rfl rfl) (op_move rfl rfl) rfl rfl ?_
                refine J.no (Wan.is rfl rfl rfl rfl rfl) rfl rfl ?_
                refine J.no (Wan.is rfl rfl rfl rfl rfl) rfl rfl ?_
                refine J.yg (Wan.is rfl rfl rfl rfl rfl) (op_pickF rfl rfl rfl) rfl rfl ?_
                refine J.y (op_pickF rfl rfl rfl) rfl rfl rfl ?_
                refine J.nil ?_
                refine J.then_n (J.k hK42 ?_)
                refine J.keepE [(3, _), (5, _), (8, _), (75, _)] ⟨rfl, rfl, rfl, rfl, trivial⟩ ?_
                refine J.condF rfl rfl ?_
                refine J.skip ?_
                refine J.then_n (J.k hK41 ?_)
                refine J.keepE [(3, _), (5, _), (8, _)] ⟨rfl, rfl, rfl, trivial⟩ ?_
                refine J.seq (fun K60 hK60 => ?_)
                refine J.seq (fun K61 hK61 => ?_)
                refine J.region ?_
                refine J.y (op_move rfl rfl) rfl rfl rfl ?_
                refine J.y (op_move rfl rfl) rfl rfl rfl ?_
                refine J.y (op_len Tryd.underlying27 rfl rfl) rfl rfl rfl ?_
                refine J.y (op_lss rfl rfl rfl) rfl rfl rfl ?_
                refine J.y (op_move rfl rfl) rfl rfl rfl ?_
                refine J.split (d := 80) rfl (fun h80 => ?_) (fun h80 => ?_)
                ·
                  refine J.yg (Wan.is rfl rfl rfl rfl rfl) (op_move rfl rfl) rfl rfl ?_
                  refine J.yg (Wan.is rfl rfl rfl rfl rfl) (op_move rfl rfl) rfl rfl ?_
                  refine J.yg (Wan.is rfl rfl rfl rfl rfl) (op_indexAddr (i := i) rfl rfl rfl Tryd.underlying27 Tryd.sizeOf3 h12.sl (by first | omega | (simp only [List.length_append, List.length_cons, List.length_nil, List.length_take, List.length_drop] at *; omega))) rfl rfl ?_
                  refine J.yg (Wan.is rfl rfl rfl rfl rfl) (op_load rfl rfl Tryd.isAgg3 (m := m12) (by simp) (h12.sl.elem (natsV_get (by first | omega | (simp only [List.length_append, List.length_cons, List.length_nil, List.length_take, List.length_drop] at *; omega))))) rfl rfl ?_
                  refine J.yg (Wan.is rfl rfl rfl rfl rfl) (op_eql rfl rfl rfl) rfl rfl ?_
                  refine J.y (op_pickT rfl rfl rfl) rfl rfl rfl ?_
                  refine J.nil ?_
                  refine J.then_n (J.k hK61 ?_)
                  refine J.keepE [(3, _), (5, _), (8, _), (86, _)] ⟨rfl, rfl, rfl, rfl, trivial⟩ ?_
                  refine J.ite rfl (fun h86 => ?_) (fun h86 => ?_)
                  ·
                    refine J.region ?_
                    refine J.y (op_move rfl rfl) rfl rfl rfl ?_
                    refine J.y ((op_add rfl rfl rfl (by first | omega | (simp only [List.length_append, List.length_cons, List.length_nil, List.length_take, List.length_drop] at *; omega))).as (v' := I ((a + 1 : Nat) : Int)) (congrArg I (by omega))) rfl rfl rfl ?_
                    refine J.y (op_assign rfl rfl) rfl rfl rfl ?_
                    refine J.nil ?_
                    refine J.then_n (J.k hK60 ?_)
                    refine J.keepE [(3, _), (5, _), (8, _)] ⟨rfl, rfl, rfl, trivial⟩ ?_
                    refine J.seq (fun K62 hK62 => ?_)
                    refine J.region ?_
                    refine J.y (op_assign rfl rfl) rfl rfl rfl ?_
                    refine J.y (op_assign rfl rfl) rfl rfl rfl ?_
                    refine J.nil ?_
                    refine J.then_n (J.k hK62 ?_)
                    refine J.keepE [(3, _), (5, _), (6, _), (7, _), (8, _)] ⟨rfl, rfl, rfl, rfl, rfl, trivial⟩ ?_
                    refine J.exit ?_
                    refine J.then_x ?_
                    refine J.blk_eq ?_
                    refine J.then_n (J.k hK14 ?_)
                    refine J.keepE [(3, _), (5, _), (6, _), (7, _), (8, _)] ⟨rfl, rfl, rfl, rfl, rfl, trivial⟩ ?_
                    refine J.region ?_
                    refine J.y (op_move rfl rfl) rfl rfl rfl ?_
                    refine J.y ((op_add rfl rfl rfl (by first | omega | (simp only [List.length_append, List.length_cons, List.length_nil, List.length_take, List.length_drop] at *; omega))).as (v' := I ((i + 1 : Nat) : Int)) (congrArg I (by omega))) rfl rfl rfl ?_
                    refine J.y (op_assign rfl rfl) rfl rfl rfl ?_
                    refine J.nil ?_
                    refine J.then_n ?_
                    exact J.kk (i + 1, a + 1, 0, false) (fun η (hη : _ ∧ (rlo s).length + 1 - η.1 < (rlo s).length + 1 - i) => hI0 η hη.1 hη.2) ⟨⟨by first | exact whyI_let hi (by omega) (by unfold sepr; rw [decide_eq_true_eq]; omega) (by omega) | exact whyI_end hi (by omega) (by simpa using h60) (good_yes (by omega)) | exact whyI_sep hi (by omega) (by unfold sepr; rw [decide_eq_true_eq]; omega) (by simpa using h60) (good_yes (by omega)) (by first | rw [if_pos (by omega)] | rw [if_neg (by omega)]), by dsimp only; omega⟩, by first | omega | (dsimp only; omega)⟩ ⟨rfl, rfl, rfl, rfl, rfl, trivial⟩ (fun _ h => h)
                  ·
                    refine J.skip ?_
                    refine J.then_n (J.k hK60 ?_)
                    refine J.keepE [(3, _), (5, _), (8, _)] ⟨rfl, rfl, rfl, trivial⟩ ?_
                    refine J.seq (fun K63 hK63 => ?_)
                    refine J.region ?_
                    refine J.y (op_assign rfl rfl) rfl rfl rfl ?_
                    refine J.y (op_assign rfl rfl) rfl rfl rfl ?_
                    refine J.nil ?_
                    refine J.then_n (J.k hK63 ?_)
                    refine J.keepE [(3, _), (5, _), (6, _), (7, _), (8, _)] ⟨rfl, rfl, rfl, rfl, rfl, trivial⟩ ?_
                    refine J.exit ?_
                    refine J.then_x ?_
                    refine J.blk_eq ?_
                    refine J.then_n (J.k hK14 ?_)
                    refine J.keepE [(3, _), (5, _), (6, _), (7, _), (8, _)] ⟨rfl, rfl, rfl, rfl, rfl, trivial⟩ ?_
                    refine J.region ?_
                    refine J.y (op_move rfl rfl) rfl rfl rfl ?_
                    refine J.y ((op_add rfl rfl rfl (by first | omega | (simp only [List.length_append, List.length_cons, List.length_nil, List.length_take, List.length_drop] at *; omega))).as (v' := I ((i + 1 : Nat) : Int)) (congrArg I (by omega))) rfl rfl rfl ?_
                    refine J.y (op_assign rfl rfl) rfl rfl rfl ?_
                    refine J.nil ?_
                    refine J.then_n ?_
                    exact J.kk (i + 1, a, 0, false) (fun η (hη : _ ∧ (rlo s).length + 1 - η.1 < (rlo s).length + 1 - i) => hI0 η hη.1 hη.2) ⟨⟨by first | exact whyI_let hi (by omega) (by unfold sepr; rw [decide_eq_true_eq]; omega) (by omega) | exact whyI_end hi (by omega) (by simpa using h60) (good_yes (by omega)) | exact whyI_sep hi (by omega) (by unfold sepr; rw [decide_eq_true_eq]; omega) (by simpa using h60) (good_yes (by omega)) (by first | rw [if_pos (by omega)] | rw [if_neg (by omega)]), by dsimp only; omega⟩, by first | omega | (dsimp only; omega)⟩ ⟨rfl, rfl, rfl, rfl, rfl, trivial⟩ (fun _ h => h)
                ·
                  refine J.no (Wan.is rfl rfl rfl rfl rfl) rfl rfl ?_
                  refine J.no (Wan.is rfl rfl rfl rfl rfl) rfl rfl ?_
                  refine J.no (Wan.is rfl rfl rfl rfl rfl) rfl rfl ?_
                  refine J.no (Wan.is rfl rfl rfl rfl rfl) rfl rfl ?_
                  refine J.no (Wan.is rfl rfl rfl rfl rfl) rfl rfl ?_
                  refine J.y (op_pickF rfl rfl rfl) rfl rfl rfl ?_
                  refine J.nil ?_
                  refine J.then_n (J.k hK61 ?_)
                  refine J.keepE [(3, _), (5, _), (8, _), (86, _)] ⟨rfl, rfl, rfl, rfl, trivial⟩ ?_
                  refine J.condF rfl rfl ?_
                  refine J.skip ?_
                  refine J.then_n (J.k hK60 ?_)
                  refine J.keepE [(3, _), (5, _), (8, _)] ⟨rfl, rfl, rfl, trivial⟩ ?_
                  refine J.seq (fun K64 hK64 => ?_)
                  refine J.region ?_
                  refine J.y (op_assign rfl rfl) rfl rfl rfl ?_
                  refine J.y (op_assign rfl rfl) rfl rfl rfl ?_
                  refine J.nil ?_
                  refine J.then_n (J.k hK64 ?_)
                  refine J.keepE [(3, _), (5, _), (6, _), (7, _), (8, _)] ⟨rfl, rfl, rfl, rfl, rfl, trivial⟩ ?_
                  refine J.exit ?_
                  refine J.then_x ?_
                  refine J.blk_eq ?_
                  refine J.then_n (J.k hK14 ?_)
                  refine J.keepE [(3, _), (5, _), (6, _), (7, _), (8, _)] ⟨rfl, rfl, rfl, rfl, rfl, trivial⟩ ?_
                  refine J.region ?_
                  refine J.y (op_move rfl rfl) rfl rfl rfl ?_
                  refine J.y ((op_add rfl rfl rfl (by first | omega | (simp only [List.length_append, List.length_cons, List.length_nil, List.length_take, List.length_drop] at *; omega))).as (v' := I ((i + 1 : Nat) : Int)) (congrArg I (by omega))) rfl rfl rfl ?_
                  refine J.y (op_assign rfl rfl) rfl rfl rfl ?_
                  refine J.nil ?_
                  refine J.then_n ?_
                  exact J.kk (i + 1, a, 0, false) (fun η (hη : _ ∧ (rlo s).length + 1 - η.1 < (rlo s).length + 1 - i) => hI0 η hη.1 hη.2) ⟨⟨by first | exact whyI_let hi (by omega) (by unfold sepr; rw [decide_eq_true_eq]; omega) (by omega) | exact whyI_end hi (by omega) (by simpa using h60) (good_yes (by omega)) | exact whyI_sep hi (by omega) (by unfold sepr; rw [decide_eq_true_eq]; omega) (by simpa using h60) (good_yes (by omega)) (by first | rw [if_pos (by omega)] | rw [if_neg (by omega)]), by dsimp only; omega⟩, by first | omega | (dsimp only; omega)⟩ ⟨rfl, rfl, rfl, rfl, rfl, trivial⟩ (fun _ h => h)
          ·
            refine J.yg (Wan.is rfl rfl rfl rfl rfl) (op_move rfl rfl) rfl rfl ?_
            refine J.yg (Wan.is rfl rfl rfl rfl rfl) (op_move rfl rfl) rfl rfl ?_
            refine J.yg (Wan.is rfl rfl rfl rfl rfl) (op_indexAddr (i := i) rfl rfl rfl Tryd.underlying27 Tryd.sizeOf3 h12.sl (by first | omega | (simp only [List.length_append, List.length_cons, List.length_nil, List.length_take, List.length_drop] at *; omega))) rfl rfl ?_
            refine J.yg (Wan.is rfl rfl rfl rfl rfl) (op_load rfl rfl Tryd.isAgg3 (m := m12) (by simp) (h12.sl.elem (natsV_get (by first | omega | (simp only [List.length_append, List.length_cons, List.length_nil, List.length_take, List.length_drop] at *; omega))))) rfl rfl ?_
            refine J.yg (Wan.is rfl rfl rfl rfl rfl) (op_eql rfl rfl rfl) rfl rfl ?_
            refine J.y (op_pickF rfl rfl rfl) rfl rfl rfl ?_
            refine J.y (op_move rfl rfl) rfl rfl rfl ?_
            refine J.split (d := 44) rfl (fun h44 => ?_) (fun h44 => ?_)
            ·
              refine J.no (Wan.is rfl rfl rfl rfl rfl) rfl rfl ?_
              refine J.no (Wan.is rfl rfl rfl rfl rfl) rfl rfl ?_
              refine J.no (Wan.is rfl rfl rfl rfl rfl) rfl rfl ?_
              refine J.no (Wan.is rfl rfl rfl rfl rfl) rfl rfl ?_
              refine J.no (Wan.is rfl rfl rfl rfl rfl) rfl rfl ?_
              refine J.y (op_pickT rfl rfl rfl) rfl rfl rfl ?_
              refine J.y (op_move rfl rfl) rfl rfl rfl ?_
              refine J.no (Wan.is rfl rfl rfl rfl rfl) rfl rfl ?_
              refine J.no (Wan.is rfl rfl rfl rfl rfl) rfl rfl ?_
              refine J.no (Wan.is rfl rfl rfl rfl rfl) rfl rfl ?_
              refine J.no (Wan.is rfl rfl rfl rfl rfl) rfl rfl ?_
              refine J.no (Wan.is rfl rfl rfl rfl rfl) rfl rfl ?_
              refine J.y (op_pickT rfl rfl rfl) rfl rfl rfl ?_
              refine J.nil ?_
              refine J.then_n (J.k hK16 ?_)
              refine J.keepE [(3, _), (5, _), (6, _), (7, _), (8, _), (57, _)] ⟨rfl, rfl, rfl, rfl, rfl, rfl, trivial⟩ ?_
              refine J.condT rfl rfl ?_
              refine J.seq (fun K65 hK65 => ?_)
              refine J.seq (fun K66 hK66 => ?_)
              refine J.region ?_
              refine J.y (op_move rfl rfl) rfl rfl rfl ?_
              refine J.y (op_not rfl rfl) rfl rfl rfl ?_
              refine J.y (op_move rfl rfl) rfl rfl rfl ?_
              refine J.splitB (d := 60) rfl (fun h60 => ?_) (fun h60 => ?_)
              ·
                refine J.no (Wan.is rfl rfl rfl rfl rfl) rfl rfl ?_
                refine J.no (Wan.is rfl rfl rfl rfl rfl) rfl rfl ?_
                refine J.no (Wan.is rfl rfl rfl rfl rfl) rfl rfl ?_
                refine J.no (Wan.un rfl rfl rfl rfl) rfl rfl ?_
                refine J.no (Wan.un rfl rfl rfl rfl) rfl rfl ?_
                refine J.no (Wan.is rfl rfl rfl rfl rfl) rfl rfl ?_
                refine J.no (Wan.is rfl rfl rfl rfl rfl) rfl rfl ?_
                refine J.no (Wan.un rfl rfl rfl rfl) rfl rfl ?_
                refine J.no (Wan.un rfl rfl rfl rfl) rfl rfl ?_
                refine J.no (Wan.is rfl rfl rfl rfl rfl) rfl rfl ?_
                refine J.no (Wan.is rfl rfl rfl rfl rfl) rfl rfl ?_
                refine J.no (Wan.un rfl rfl rfl rfl) rfl rfl ?_
                refine J.no (Wan.un rfl rfl rfl rfl) rfl rfl ?_
                refine J.no (Wan.is rfl rfl rfl rfl rfl) rfl rfl ?_
                refine J.y (op_pickT rfl rfl rfl) rfl rfl rfl ?_
                refine J.nil ?_
                refine J.then_n (J.k hK66 ?_)
                refine J.keepE [(3, _), (5, _), (8, _), (75, _)] ⟨rfl, rfl, rfl, rfl, trivial⟩ ?_
                refine J.condT rfl rfl ?_
                refine J.seq (fun K67 hK67 => ?_)
                refine J.region ?_
                refine J.y (op_assign rfl rfl) rfl rfl rfl ?_
                refine J.nil ?_
                refine J.then_n (J.k hK67 ?_)
                refine J.keepE [(2, _)] ⟨rfl, trivial⟩ ?_
                refine J.ret ?_
                refine J.then_r ?_
                refine J.then_r ?_
                refine J.blk_r ?_
                refine J.then_r ?_
                refine J.then_r ?_
                refine J.blk_r ?_
                refine J.then_r ?_
                exact J.done hw0 (fun _ _ h => h) (res1 rfl rfl) (retOk () (by first | (exfalso; omega) | exact why_is5 hwn (whyI_bad hi (by omega) (by first | (left; omega) | (right; exact (by unfold sepr; rw [decide_eq_true_eq]; omega))) (by first | (left; simpa using h60) | (right; exact good_no (by omega)))) | exact why_is5 hwn (whyI_bad2 hi (by omega) (by unfold sepr; rw [decide_eq_true_eq]; omega) (by omega)) | exact why_is5 hwn ((whyI_fin hi (by omega)).trans (decide_eq_false (by omega))) | exact why_is0 hwn ((whyI_fin hi (by omega)).trans (decide_eq_true (by omega)))) trivial [0] rfl (by decide))
              ·
                refine J.yg (Wan.is rfl rfl rfl rfl rfl) (op_move rfl rfl) rfl rfl ?_
                refine J.yg (Wan.is rfl rfl rfl rfl rfl) (op_neq rfl rfl rfl) rfl rfl ?_
                refine J.yg (Wan.is rfl rfl rfl rfl rfl) (op_move rfl rfl) rfl rfl ?_
                refine J.split (d := 63) rfl (fun h63 => ?_) (fun h63 => ?_)
                ·
                  refine J.yg (Wan.is rfl rfl rfl rfl rfl) (op_move rfl rfl) rfl rfl ?_
                  refine J.yg (Wan.is rfl rfl rfl rfl rfl) (op_neq rfl rfl rfl) rfl rfl ?_
                  refine J.yg (Wan.is rfl rfl rfl rfl rfl) (op_pickT rfl rfl rfl) rfl rfl ?_
                  refine J.yg (Wan.is rfl rfl rfl rfl rfl) (op_move rfl rfl) rfl rfl ?_
                  refine J.split (d := 67) rfl (fun h67 => ?_) (fun h67 => ?_)
                  ·
                    refine J.yg (Wan.is rfl rfl rfl rfl rfl) (op_move rfl rfl) rfl rfl ?_
                    refine J.yg (Wan.is rfl rfl rfl rfl rfl) (op_neq rfl rfl rfl) rfl rfl ?_
                    refine J.yg (Wan.is rfl rfl rfl rfl rfl) (op_pickT rfl rfl rfl) rfl rfl ?_
                    refine J.yg (Wan.is rfl rfl rfl rfl rfl) (op_move rfl rfl) rfl rfl ?_
                    refine J.split (d := 71) rfl (fun h71 => ?_) (fun h71 => ?_)
                    ·
                      refine J.yg (Wan.is rfl rfl rfl rfl rfl) (op_move rfl rfl) rfl rfl ?_
                      refine J.yg (Wan.is rfl rfl rfl rfl rfl) (op_neq rfl rfl rfl) rfl rfl ?_
                      refine J.yg (Wan.is rfl rfl rfl rfl rfl) (op_pickT rfl rfl rfl) rfl rfl ?_
                      refine J.y (op_pickF rfl rfl rfl) rfl rfl rfl ?_
                      refine J.nil ?_
                      refine J.then_n (J.k hK66 ?_)
                      refine J.keepE [(3, _), (5, _), (8, _), (75, _)] ⟨rfl, rfl, rfl, rfl, trivial⟩ ?_
                      refine J.ite rfl (fun h75 => ?_) (fun h75 => ?_)
                      ·
                        refine J.seq (fun K68 hK68 => ?_)
                        refine J.region ?_
                        refine J.y (op_assign rfl rfl) rfl rfl rfl ?_
                        refine J.nil ?_
                        refine J.then_n (J.k hK68 ?_)
                        refine J.keepE [(2, _)] ⟨rfl, trivial⟩ ?_
                        refine J.ret ?_
                        refine J.then_r ?_
                        refine J.then_r ?_
                        refine J.blk_r ?_
                        refine J.then_r ?_
                        refine J.then_r ?_
                        refine J.blk_r ?_
                        refine J.then_r ?_
                        exact J.done hw0 (fun _ _ h => h) (res1 rfl rfl) (retOk () (by first | (exfalso; omega) | exact why_is5 hwn (whyI_bad hi (by omega) (by first | (left; omega) | (right; exact (by unfold sepr; rw [decide_eq_true_eq]; omega))) (by first | (left; simpa using h60) | (right; exact good_no (by omega)))) | exact why_is5 hwn (whyI_bad2 hi (by omega) (by unfold sepr; rw [decide_eq_true_eq]; omega) (by omega)) | exact why_is5 hwn ((whyI_fin hi (by omega)).trans (decide_eq_false (by omega))) | exact why_is0 hwn ((whyI_fin hi (by omega)).trans (decide_eq_true (by omega)))) trivial [0] rfl (by decide))
                      ·
                        refine J.skip ?_
                        refine J.then_n (J.k hK65 ?_)
                        refine J.keepE [(3, _), (5, _), (8, _)] ⟨rfl, rfl, rfl, trivial⟩ ?_
                        refine J.seq (fun K69 hK69 => ?_)
                        refine J.seq (fun K70 hK70 => ?_)
                        refine J.region ?_
                        refine J.y (op_move rfl rfl) rfl rfl rfl ?_
                        refine J.y (op_move rfl rfl) rfl rfl rfl ?_
                        refine J.y (op_len Tryd.underlying27 rfl rfl) rfl rfl rfl ?_
                        refine J.y (op_lss rfl rfl rfl) rfl rfl rfl ?_
                        refine J.y (op_move rfl rfl) rfl rfl rfl ?_
                        refine J.split (d := 80) rfl (fun h80 => ?_) (fun h80 => ?_)
                        ·
                          refine J.yg (Wan.is rfl rfl rfl rfl rfl) (op_move rfl rfl) rfl rfl ?_
                          refine J.yg (Wan.is rfl rfl rfl rfl rfl) (op_move rfl rfl) rfl rfl ?_
                          refine J.yg (Wan.is rfl rfl rfl rfl rfl) (op_indexAddr (i := i) rfl rfl rfl Tryd.underlying27 Tryd.sizeOf3 h12.sl (by first | omega | (simp only [List.length_append, List.length_cons, List.length_nil, List.length_take, List.length_drop] at *; omega))) rfl rfl ?_
                          refine J.yg (Wan.is rfl rfl rfl rfl rfl) (op_load rfl rfl Tryd.isAgg3 (m := m12) (by simp) (h12.sl.elem (natsV_get (by first | omega | (simp only [List.length_append, List.length_cons, List.length_nil, List.length_take, List.length_drop] at *; omega))))) rfl rfl ?_
                          refine J.yg (Wan.is rfl rfl rfl rfl rfl) (op_eql rfl rfl rfl) rfl rfl ?_
                          refine J.y (op_pickT rfl rfl rfl) rfl rfl rfl ?_
                          refine J.nil ?_
                          refine J.then_n (J.k hK70 ?_)
                          refine J.keepE [(3, _), (5, _), (8, _), (86, _)] ⟨rfl, rfl, rfl, rfl, trivial⟩ ?_
                          refine J.ite rfl (fun h86 => ?_) (fun h86 => ?_)
                          ·
                            refine J.region ?_
                            refine J.y (op_move rfl rfl) rfl rfl rfl ?_
                            refine J.y ((op_add rfl rfl rfl (by first | omega | (simp only [List.length_append, List.length_cons, List.length_nil, List.length_take, List.length_drop] at *; omega))).as (v' := I ((a + 1 : Nat) : Int)) (congrArg I (by omega))) rfl rfl rfl ?_
                            refine J.y (op_assign rfl rfl) rfl rfl rfl ?_
                            refine J.nil ?_
                            refine J.then_n (J.k hK69 ?_)
                            refine J.keepE [(3, _), (5, _), (8, _)] ⟨rfl, rfl, rfl, trivial⟩ ?_
                            refine J.seq (fun K71 hK71 => ?_)
                            refine J.region ?_
                            refine J.y (op_assign rfl rfl) rfl rfl rfl ?_
                            refine J.y (op_assign rfl rfl) rfl rfl rfl ?_
                            refine J.nil ?_
                            refine J.then_n (J.k hK71 ?_)
                            refine J.keepE [(3, _), (5, _), (6, _), (7, _), (8, _)] ⟨rfl, rfl, rfl, rfl, rfl, trivial⟩ ?_
                            refine J.exit ?_
                            refine J.then_x ?_
                            refine J.blk_eq ?_
                            refine J.then_n (J.k hK14 ?_)
                            refine J.keepE [(3, _), (5, _), (6, _), (7, _), (8, _)] ⟨rfl, rfl, rfl, rfl, rfl, trivial⟩ ?_
                            refine J.region ?_
                            refine J.y (op_move rfl rfl) rfl rfl rfl ?_
                            refine J.y ((op_add rfl rfl rfl (by first | omega | (simp only [List.length_append, List.length_cons, List.length_nil, List.length_take, List.length_drop] at *; omega))).as (v' := I ((i + 1 : Nat) : Int)) (congrArg I (by omega))) rfl rfl rfl ?_
                            refine J.y (op_assign rfl rfl) rfl rfl rfl ?_
                            refine J.nil ?_
                            refine J.then_n ?_
                            exact J.kk (i + 1, a + 1, 0, false) (fun η (hη : _ ∧ (rlo s).length + 1 - η.1 < (rlo s).length + 1 - i) => hI0 η hη.1 hη.2) ⟨⟨by first | exact whyI_let hi (by omega) (by unfold sepr; rw [decide_eq_true_eq]; omega) (by omega) | exact whyI_end hi (by omega) (by simpa using h60) (good_yes (by omega)) | exact whyI_sep hi (by omega) (by unfold sepr; rw [decide_eq_true_eq]; omega) (by simpa using h60) (good_yes (by omega)) (by first | rw [if_pos (by omega)] | rw [if_neg (by omega)]), by dsimp only; omega⟩, by first | omega | (dsimp only; omega)⟩ ⟨rfl, rfl, rfl, rfl, rfl, trivial⟩ (fun _ h => h)
                          ·
                            refine J.skip ?_
                            refine J.then_n (J.k hK69 ?_)
                            refine J.keepE [(3, _), (5, _), (8, _)] ⟨rfl, rfl, rfl, trivial⟩ ?_
                            refine J.seq (fun K72 hK72 => ?_)
                            refine J.region ?_
                            refine J.y (op_assign rfl rfl) rfl rfl rfl ?_
                            refine J.y (op_assign rfl rfl) rfl rfl rfl ?_
                            refine J.nil ?_
                            refine J.then_n (J.k hK72 ?_)
                            refine J.keepE [(3, _), (5, _), (6, _), (7, _), (8, _)] ⟨rfl, rfl, rfl, rfl, rfl, trivial⟩ ?_
                            refine J.exit ?_
                            refine J.then_x ?_
                            refine J.blk_eq ?_
                            refine J.then_n (J.k hK14 ?_)
                            refine J.keepE [(3, _), (5, _), (6, _), (7, _), (8, _)] ⟨rfl, rfl, rfl, rfl, rfl, trivial⟩ ?_
                            refine J.region ?_
                            refine J.y (op_move rfl rfl) rfl rfl rfl ?_
                            refine J.y ((op_add rfl rfl rfl (by first | omega | (simp only [List.length_append, List.length_cons, List.length_nil, List.length_take, List.length_drop] at *; omega))).as (v' := I ((i + 1 : Nat) : Int)) (congrArg I (by omega))) rfl rfl rfl ?_
                            refine J.y (op_assign rfl rfl) rfl rfl rfl ?_
                            refine J.nil ?_
                            refine J.then_n ?_
                            exact J.kk (i + 1, a, 0, false) (fun η (hη : _ ∧ (rlo s).length + 1 - η.1 < (rlo s).length + 1 - i) => hI0 η hη.1 hη.2) ⟨⟨by first | exact whyI_let hi (by omega) (by unfold sepr; rw [decide_eq_true_eq]; omega) (by omega) | exact whyI_end hi (by omega) (by simpa using h60) (good_yes (by omega)) | exact whyI_sep hi (by omega) (by unfold sepr; rw [decide_eq_true_eq]; omega) (by simpa using h60) (good_yes (by omega)) (by first | rw [if_pos (by omega)] | rw [if_neg (by omega)]), by dsimp only; omega⟩, by first | omega | (dsimp only; omega)⟩ ⟨rfl, rfl, rfl, rfl, rfl, trivial⟩ (fun _ h => h)
                        ·
                          refine J.no (Wan.is rfl rfl rfl rfl rfl) rfl rfl ?_
                          refine J.no (Wan.is rfl rfl rfl rfl rfl) rfl rfl ?_
                          refine J.no (Wan.is rfl rfl rfl rfl rfl) rfl rfl ?_
                          refine J.no (Wan.is rfl rfl rfl rfl rfl) rfl rfl ?_
                          refine J.no (Wan.is rfl rfl rfl rfl rfl) rfl rfl ?_
                          refine J.y (op_pickF rfl rfl rfl) rfl rfl rfl ?_
                          refine J.nil ?_
                          refine J.then_n (J.k hK70 ?_)
                          refine J.keepE [(3, _), (5, _), (8, _), (86, _)] ⟨rfl, rfl, rfl, rfl, trivial⟩ ?_
                          refine J.condF rfl rfl ?_
                          refine J.skip ?_
                          refine J.then_n (J.k hK69 ?_)
                          refine J.keepE [(3, _), (5, _), (8, _)] ⟨rfl, rfl, rfl, trivial⟩ ?_
                          refine J.seq (fun K73 hK73 => ?_)
                          refine J.region ?_
                          refine J.y (op_assign rfl rfl) rfl rfl rfl ?_
                          refine J.y (op_assign rfl rfl) rfl rfl rfl ?_
                          refine J.nil ?_
                          refine J.then_n (J.k hK73 ?_)
                          refine J.keepE [(3, _), (5, _), (6, _), (7, _), (8, _)] ⟨rfl, rfl, rfl, rfl, rfl, trivial⟩ ?_
                          refine J.exit ?_
                          refine J.then_x ?_
                          refine J.blk_eq ?_
                          refine J.then_n (J.k hK14 ?_)
                          refine J.keepE [(3, _), (5, _), (6, _), (7, _), (8, _)] ⟨rfl, rfl, rfl, rfl, rfl, trivial⟩ ?_
                          refine J.region ?_
                          refine J.y (op_move rfl rfl) rfl rfl rfl ?_
                          refine J.y ((op_add rfl rfl rfl (by first | omega | (simp only [List.length_append, List.length_cons, List.length_nil, List.length_take, List.length_drop] at *; omega))).as (v' := I ((i + 1 : Nat) : Int)) (congrArg I (by omega))) rfl rfl rfl ?_
                          refine J.y (op_assign rfl rfl) rfl rfl rfl ?_
                          refine J.nil ?_
                          refine J.then_n ?_
                          exact J.kk (i + 1, a, 0, false) (fun η (hη : _ ∧ (rlo s).length + 1 - η.1 < (rlo s).length + 1 - i) => hI0 η hη.1 hη.2) ⟨⟨by first | exact whyI_let hi (by omega) (by unfold sepr; rw [decide_eq_true_eq]; omega) (by omega) | exact whyI_end hi (by omega) (by simpa using h60) (good_yes (by omega)) | exact whyI_sep hi (by omega) (by unfold sepr; rw [decide_eq_true_eq]; omega) (by simpa using h60) (good_yes (by omega)) (by first | rw [if_pos (by omega)] | rw [if_neg (by omega)]), by dsimp only; omega⟩, by first | omega | (dsimp only; omega)⟩ ⟨rfl, rfl, rfl, rfl, rfl, trivial⟩ (fun _ h => h)
                    ·
                      refine J.no (Wan.is rfl rfl rfl rfl rfl) rfl rfl ?_
                      refine J.no (Wan.is rfl rfl rfl rfl rfl) rfl rfl ?_
                      refine J.yg (Wan.is rfl rfl rfl rfl rfl) (op_pickF rfl rfl rfl) rfl rfl ?_
                      refine J.y (op_pickF rfl rfl rfl) rfl rfl rfl ?_
                      refine J.nil ?_
                      refine J.then_n (J.k hK66 ?_)
                      refine J.keepE [(3, _), (5, _), (8, _), (75, _)] ⟨rfl, rfl, rfl, rfl, trivial⟩ ?_
                      refine J.condF rfl rfl ?_
                      refine J.skip ?_
                      refine J.then_n (J.k hK65 ?_)
                      refine J.keepE [(3, _), (5, _), (8, _)] ⟨rfl, rfl, rfl, trivial⟩ ?_
                      refine J.seq (fun K74 hK74 => ?_)
                      refine J.seq (fun K75 hK75 => ?_)
                      refine J.region ?_
                      refine J.y (op_move rfl rfl) rfl rfl rfl ?_
                      refine J.y (op_move rfl rfl) rfl rfl rfl ?_
                      refine J.y (op_len Tryd.underlying27 rfl rfl) rfl rfl rfl ?_
                      refine J.y (op_lss rfl rfl rfl) rfl rfl rfl ?_
                      refine J.y (op_move rfl rfl) rfl rfl rfl ?_
                      refine J.split (d := 80) rfl (fun h80 => ?_) (fun h80 => ?_)
                      ·
                        refine J.yg (Wan.is rfl rfl rfl rfl rfl) (op_move rfl rfl) rfl rfl ?_
                        refine J.yg (Wan.is rfl rfl rfl rfl rfl) (op_move rfl rfl) rfl rfl ?_
                        refine J.yg (Wan.is rfl rfl rfl rfl rfl) (op_indexAddr (i := i) rfl rfl rfl Tryd.underlying27 Tryd.sizeOf3 h12.sl (by first | omega | (simp only [List.length_append, List.length_cons, List.length_nil, List.length_take, List.length_drop] at *; omega))) rfl rfl ?_
                        refine J.yg (Wan.is rfl rfl rfl rfl rfl) (op_load rfl rfl Tryd.isAgg3 (m := m12) (by simp) (h12.sl.elem (natsV_get (by first | omega | (simp only [List.length_append, List.length_cons, List.length_nil, List.length_take, List.length_drop] at *; omega))))) rfl rfl ?_
                        refine J.yg (Wan.is rfl rfl rfl rfl rfl) (op_eql rfl rfl rfl) rfl rfl ?_
                        refine J.y (op_pickT rfl rfl rfl) rfl rfl rfl ?_
                        refine J.nil ?_
                        refine J.then_n (J.k hK75 ?_)
                        refine J.keepE [(3, _), (5, _), (8, _), (86, _)] ⟨rfl, rfl, rfl, rfl, trivial⟩ ?_
                        refine J.ite rfl (fun h86 => ?_) (fun h86 => ?_)
                        ·
                          refine J.region ?_
                          refine J.y (op_move rfl rfl) rfl rfl rfl ?_
                          refine J.y ((op_add rfl rfl rfl (by first | omega | (simp only [List.length_append, List.length_cons, List.length_nil, List.length_take, List.length_drop] at *; omega))).as (v' := I ((a + 1 : Nat) : Int)) (congrArg I (by omega))) rfl rfl rfl ?_
                          refine J.y (op_assign rfl rfl) rfl rfl rfl ?_
                          refine J.nil ?_
                          refine J.then_n (J.k hK74 ?_)
                          refine J.keepE [(3, _), (5, _), (8, _)] ⟨rfl, rfl, rfl, trivial⟩ ?_
                          refine J.seq (fun K76 hK76 => ?_)
                          refine J.region ?_
                          refine J.y (op_assign rfl rfl) rfl rfl rfl ?_
                          refine J.y (op_assign rfl rfl) rfl rfl rfl ?_
                          refine J.nil ?_
                          refine J.then_n (J.k hK76 ?_)
                          refine J.keepE [(3, _), (5, _), (6, _), (7, _), (8, _)] ⟨rfl, rfl, rfl, rfl, rfl, trivial⟩ ?_
                          refine J.exit ?_
                          refine J.then_x ?_
                          refine J.blk_eq ?_
                          refine J.then_n (J.k hK14 ?_)
                          refine J.keepE [(3, _), (5, _), (6, _), (7, _), (8, _)] ⟨rfl, rfl, rfl, rfl, rfl, trivial⟩ ?_
                          refine J.region ?_
                          refine J.y (op_move rfl rfl) rfl rfl rfl ?_
                          refine J.y ((op_add rfl rfl rfl (by first | omega | (simp only [List.length_append, List.length_cons, List.length_nil, List.length_take, List.length_drop] at *; omega))).as (v' := I ((i + 1 : Nat) : Int)) (congrArg I (by omega))) rfl rfl rfl ?_
                          refine J.y (op_assign rfl rfl) rfl rfl rfl ?_
                          refine J.nil ?_
                          refine J.then_n ?_
                          exact J.kk (i + 1, a + 1, 0, false) (fun η (hη : _ ∧ (rlo s).length + 1 - η.1 < (rlo s).length + 1 - i) => hI0 η hη.1 hη.2) ⟨⟨by first | exact whyI_let hi (by omega) (by unfold sepr; rw [decide_eq_true_eq]; omega) (by omega) | exact whyI_end hi (by omega) (by simpa using h60) (good_yes (by omega)) | exact whyI_sep hi (by omega) (by unfold sepr; rw [decide_eq_true_eq]; omega) (by simpa using h60) (good_yes (by omega)) (by first | rw [if_pos (by omega)] | rw [if_neg (by omega)]), by dsimp only; omega⟩, by first | omega | (dsimp only; omega)⟩ ⟨rfl, rfl, rfl, rfl, rfl, trivial⟩ (fun _ h => h)
                        ·
                          refine J.skip ?_
                          refine J.then_n (J.k hK74 ?_)
                          refine J.keepE [(3, _), (5, _), (8, _)] ⟨rfl, rfl, rfl, trivial⟩ ?_
                          refine J.seq (fun K77 hK77 => ?_)
                          refine J.region ?_
                          refine J.y (op_assign rfl rfl) rfl rfl rfl ?_
                          refine J.y (op_assign rfl rfl) rfl rfl rfl ?_
                          refine J.nil ?_
                          refine J.then_n (J.k hK77 ?_)
                          refine J.keepE [(3, _), (5, _), (6, _), (7, _), (8, _)] ⟨rfl, rfl, rfl, rfl, rfl, trivial⟩ ?_
                          refine J.exit ?_
                          refine J.then_x ?_
                          refine J.blk_eq ?_
                          refine J.then_n (J.k hK14 ?_)
                          refine J.keepE [(3, _), (5, _), (6, _), (7, _), (8, _)] ⟨rfl, rfl, rfl, rfl, rfl, trivial⟩ ?_
                          refine J.region ?_
                          refine J.y (op_move rfl rfl) rfl rfl rfl ?_
                          refine J.y ((op_add rfl rfl rfl (by first | omega | (simp only [List.length_append, List.length_cons, List.length_nil, List.length_take, List.length_drop] at *; omega))).as (v' := I ((i + 1 : Nat) : Int)) (congrArg I (by omega))) rfl rfl rfl ?_
                          refine J.y (op_assign rfl rfl) rfl rfl rfl ?_
                          refine J.nil ?_
                          refine J.then_n ?_
                          exact J.kk (i + 1, a, 0, false) (fun η (hη : _ ∧ (rlo s).length + 1 - η.1 < (rlo s).length + 1 - i) => hI0 η hη.1 hη.2) ⟨⟨by first | exact whyI_let hi (by omega) (by unfold sepr; rw [decide_eq_true_eq]; omega) (by omega) | exact whyI_end hi (by omega) (by simpa using h60) (good_yes (by omega)) | exact whyI_sep hi (by omega) (by unfold sepr; rw [decide_eq_true_eq]; omega) (by simpa using h60) (good_yes (by omega)) (by first | rw [if_pos (by omega)] | rw [if_neg (by omega)]), by dsimp only; omega⟩, by first | omega | (dsimp only; omega)⟩ ⟨rfl, rfl, rfl, rfl, rfl, trivial⟩ (fun _ h => h)
                      ·
                        refine J.no (Wan.is rfl rfl rfl rfl rfl) rfl rfl ?_
                        refine J.no (Wan.is rfl rfl rfl rfl rfl) rfl rfl ?_
                        refine J.no (Wan.is rfl rfl rfl rfl rfl) rfl rfl ?_
                        refine J.no (Wan.is rfl rfl rfl rfl rfl) rfl rfl ?_
                        refine J.no (Wan.is rfl rfl rfl rfl rfl) rfl rfl ?_
                        refine J.y (op_pickF rfl rfl rfl) rfl rfl rfl ?_
                        refine J.nil ?_
                        refine J.then_n (J.k hK75 ?_)
                        refine J.keepE [(3, _), (5, _), (8, _), (86, _)] ⟨rfl, rfl, rfl, rfl, trivial⟩ ?_
                        refine J.condF rfl rfl ?_
                        refine J.skip ?_
                        refine J.then_n (J.k hK74 ?_)
                        refine J.keepE [(3, _), (5, _), (8, _)] ⟨rfl, rfl, rfl, trivial⟩ ?_
                        refine J.seq (fun K78 hK78 => ?_)
                        refine J.region ?_
                        refine J.y (op_assign rfl rfl) rfl rfl rfl ?_
                        refine J.y (op_assign rfl rfl) rfl rfl rfl ?_
                        refine J.nil ?_
                        refine J.then_n (J.k hK78 ?_)
                        refine J.keepE [(3, _), (5, _), (6, _), (7, _), (8, _)] ⟨rfl, rfl, rfl, rfl, rfl, trivial⟩ ?_
                        refine J.exit ?_
                        refine J.then_x ?_
                        refine J.blk_eq ?_
                        refine J.then_n (J.k hK14 ?_)
                        refine J.keepE [(3, _), (5, _), (6, _), (7, _), (8, _)] ⟨rfl, rfl, rfl, rfl, rfl, trivial⟩ ?_
                        refine J.region ?_
                        refine J.y (op_move rfl rfl) rfl rfl rfl ?_
                        refine J.y ((op_add rfl rfl rfl (by first | omega | (simp only [List.length_append, List.length_cons, List.length_nil, List.length_take, List.length_drop] at *; omega))).as (v' := I ((i + 1 : Nat) : Int)) (congrArg I (by omega))) rfl rfl rfl ?_
                        refine J.y (op_assign rfl rfl) rfl rfl rfl ?_
                        refine J.nil ?_
                        refine J.then_n ?_
                        exact J.kk (i + 1, a, 0, false) (fun η (hη : _ ∧ (rlo s).length + 1 - η.1 < (rlo s).length + 1 - i) => hI0 η hη.1 hη.2) ⟨⟨by first | exact whyI_let hi (by omega) (by unfold sepr; rw [decide_eq_true_eq]; omega) (by omega) | exact whyI_end hi (by omega) (by simpa using h60) (good_yes (by omega)) | exact whyI_sep hi (by omega) (by unfold sepr; rw [decide_eq_true_eq]; omega) (by simpa using h60) (good_yes (by omega)) (by first | rw [if_pos (by omega)] | rw [if_neg (by omega)]), by dsimp only; omega⟩, by first | omega | (dsimp only; omega)⟩ ⟨rfl, rfl, rfl, rfl, rfl, trivial⟩ (fun _ h => h)
                  ·
                    refine J.no (Wan.is rfl rfl rfl rfl rfl) rfl rfl ?_
                    refine J.no (Wan.is rfl rfl rfl rfl rfl) rfl rfl ?_
                    refine J.yg (Wan.is rfl rfl rfl rfl rfl) (op_pickF rfl rfl rfl) rfl rfl ?_
                    refine J.yg (Wan.is rfl rfl rfl rfl rfl) (op_move rfl rfl) rfl rfl ?_
                    refine J.no (Wan.is rfl rfl rfl rfl rfl) rfl rfl ?_
                    refine J.no (Wan.is rfl rfl rfl rfl rfl) rfl rfl ?_
                    refine J.yg (Wan.is rfl rfl rfl rfl rfl) (op_pickF rfl rfl rfl) rfl rfl ?_
                    refine J.y (op_pickF rfl rfl rfl) rfl rfl rfl ?_
                    refine J.nil ?_
                    refine J.then_n (J.k hK66 ?_)
                    refine J.keepE [(3, _), (5, _), (8, _), (75, _)] ⟨rfl, rfl, rfl, rfl, trivial⟩ ?_
                    refine J.condF rfl rfl ?_
                    refine J.skip ?_
                    refine J.then_n (J.k hK65 ?_)
                    refine J.keepE [(3, _), (5, _), (8, _)] ⟨rfl, rfl, rfl, trivial⟩ ?_
                    refine J.seq (fun K79 hK79 => ?_)
                    refine J.seq (fun K80 hK80 => ?_)
                    refine J.region ?_
                    refine J.y (op_move rfl rfl) rfl rfl rfl ?_
                    refine J.y (op_move rfl rfl) rfl rfl rfl ?_
                    refine J.y (op_len Tryd.underlying27 rfl rfl) rfl rfl rfl ?_
                    refine J.y (op_lss rfl rfl rfl) rfl rfl rfl ?_
                    refine J.y (op_move rfl rfl) rfl rfl rfl ?_
                    refine J.split (d := 80) rfl (fun h80 => ?_) (fun h80 => ?_)
                    ·
                      refine J.yg (Wan.is rfl rfl rfl rfl rfl) (op_move rfl rfl) rfl rfl ?_
                      refine J.yg (Wan.is rfl rfl rfl rfl rfl) (op_move rfl rfl) rfl rfl ?_
                      refine J.yg (Wan.is rfl rfl rfl rfl rfl) (op_indexAddr (i := i) rfl rfl rfl Tryd.underlying27 Tryd.sizeOf3 h12.sl (by first | omega | (simp only [List.length_append, List.length_cons, List.length_nil, List.length_take, List.length_drop] at *; omega))) rfl rfl ?_
                      refine J.yg (Wan.is rfl rfl rfl rfl rfl) (op_load rfl rfl Tryd.isAgg3 (m := m12) (by simp) (h12.sl.elem (natsV_get (by first | omega | (simp only [List.length_append, List.length_cons, List.length_nil, List.length_take, List.length_drop] at *; omega))))) rfl rfl ?_
                      refine J.yg (Wan.is rfl rfl rfl rfl rfl) (op_eql rfl rfl rfl) rfl rfl ?_
                      refine J.y (op_pickT rfl rfl rfl) rfl rfl rfl ?_
                      refine J.nil ?_
                      refine J.then_n (J.k hK80 ?_)
                      refine J.keepE [(3, _), (5, _), (8, _), (86, _)] ⟨rfl, rfl, rfl, rfl, trivial⟩ ?_
                      refine J.ite rfl (fun h86 => ?_) (fun h86 => ?_)
                      ·
                        refine J.region ?_
                        refine J.y (op_move rfl rfl) rfl rfl rfl ?_
                        refine J.y ((op_add rfl rfl rfl (by first | omega | (simp only [List.length_append, List.length_cons, List.length_nil, List.length_take, List.length_drop] at *; omega))).as (v' := I ((a + 1 : Nat) : Int)) (congrArg I (by omega))) rfl rfl rfl ?_
                        refine J.y (op_assign rfl rfl) rfl rfl rfl ?_
                        refine J.nil ?_
                        refine J.then_n (J.k hK79 ?_)
                        refine J.keepE [(3, _), (5, _), (8, _)] ⟨rfl, rfl, rfl, trivial⟩ ?_
                        refine J.seq (fun K81 hK81 => ?_)
                        refine J.region ?_
                        refine J.y (op_assign rfl rfl) rfl rfl rfl ?_
                        refine J.y (op_assign rfl rfl) rfl rfl rfl ?_
                        refine J.nil ?_
                        refine J.then_n (J.k hK81 ?_)
                        refine J.keepE [(3, _), (5, _), (6, _), (7, _), (8, _)] ⟨rfl, rfl, rfl, rfl, rfl, trivial⟩ ?_
                        refine J.exit ?_
                        refine J.then_x ?_
                        refine J.blk_eq ?_
                        refine J.then_n (J.k hK14 ?_)
                        refine J.keepE [(3, _), (5, _), (6, _), (7, _), (8, _)] ⟨rfl, rfl, rfl, rfl, rfl, trivial⟩ ?_
                        refine J.region ?_
                        refine J.y (op_move rfl rfl) rfl rfl rfl ?_
                        refine J.y ((op_add rfl rfl rfl (by first | omega | (simp only [List.length_append, List.length_cons, List.length_nil, List.length_take, List.length_drop] at *; omega))).as (v' := I ((i + 1 : Nat) : Int)) (congrArg I (by omega))) rfl rfl rfl ?_
                        refine J.y (op_assign rfl rfl) rfl rfl rfl ?_
                        refine J.nil ?_
                        refine J.then_n ?_
                        exact J.kk (i + 1, a + 1, 0, false) (fun η (hη : _ ∧ (rlo s).length + 1 - η.1 < (rlo s).length + 1 - i) => hI0 η hη.1 hη.2) ⟨⟨by first | exact whyI_let hi (by omega) (by unfold sepr; rw [decide_eq_true_eq]; omega) (by omega) | exact whyI_end hi (by omega) (by simpa using h60) (good_yes (by omega)) | exact whyI_sep hi (by omega) (by unfold sepr; rw [decide_eq_true_eq]; omega) (by simpa using h60) (good_yes (by omega)) (by first | rw [if_pos (by omega)] | rw [if_neg (by omega)]), by dsimp only; omega⟩, by first | omega | (dsimp only; omega)⟩ ⟨rfl, rfl, rfl, rfl, rfl, trivial⟩ (fun _ h => h)
                      ·
                        refine J.skip ?_
                        refine J.then_n (J.k hK79 ?_)
                        refine J.keepE [(3, _), (5, _), (8, _)] ⟨rfl, rfl, rfl, trivial⟩ ?_
                        refine J.seq (fun K82 hK82 => ?_)
                        refine J.region ?_
                        refine J.y (op_assign rfl rfl) rfl rfl rfl ?_
                        refine J.y (op_assign rfl rfl) rfl rfl rfl ?_
                        refine J.nil ?_
                        refine J.then_n (J.k hK82 ?_)
                        refine J.keepE [(3, _), (5, _), (6, _), (7, _), (8, _)] ⟨rfl, rfl, rfl, rfl, rfl, trivial⟩ ?_
                        refine J.exit ?_
                        refine J.then_x ?_
                        refine J.blk_eq ?_
                        refine J.then_n (J.k hK14 ?_)
                        refine J.keepE [(3, _), (5, _), (6, _), (7, _), (8, _)] ⟨rfl, rfl, rfl, rfl, rfl, trivial⟩ ?_
                        refine J.region ?_
                        refine J.y (op_move rfl rfl) rfl rfl rfl ?_
                        refine J.y ((op_add rfl rfl rfl (by first | omega | (simp only [List.length_append, List.length_cons, List.length_nil, List.length_take, List.length_drop] at *; omega))).as (v' := I ((i + 1 : Nat) : Int)) (congrArg I (by omega))) rfl rfl rfl ?_
                        refine J.y (op_assign rfl rfl) rfl rfl rfl ?_
                        refine J.nil ?_
                        refine J.then_n ?_
                        exact J.kk (i + 1, a, 0, false) (fun η (hη : _ ∧ (rlo s).length + 1 - η.1 < (rlo s).length + 1 - i) => hI0 η hη.1 hη.2) ⟨⟨by first | exact whyI_let hi (by omega) (by unfold sepr; rw [decide_eq_true_eq]; omega) (by omega) | exact whyI_end hi (by omega) (by simpa using h60) (good_yes (by omega)) | exact whyI_sep hi (by omega) (by unfold sepr; rw [decide_eq_true_eq]; omega) (by simpa using h60) (good_yes (by omega)) (by first | rw [if_pos (by omega)] | rw [if_neg (by omega)]), by dsimp only; omega⟩, by first | omega | (dsimp only; omega)⟩ ⟨rfl, rfl, rfl, rfl, rfl, trivial⟩ (fun _ h => h)
                    ·
                      refine J.no (Wan.is rfl rfl rfl rfl rfl) rfl rfl ?_
                      refine J.no (Wan.is rfl rfl rfl rfl rfl) rfl rfl ?_
                      refine J.no (Wan.is rfl rfl rfl rfl rfl) rfl rfl ?_
                      refine J.no (Wan.is rfl rfl rfl rfl rfl) rfl rfl ?_
                      refine J.no (Wan.is rfl rfl rfl rfl rfl) rfl rfl ?_
                      refine J.y (op_pickF rfl rfl rfl) rfl rfl rfl ?_
                      refine J.nil ?_
                      refine J.then_n (J.k hK80 ?_)
                      refine J.keepE [(3, _), (5, _), (8, _), (86, _)] ⟨rfl, rfl, rfl, rfl, trivial⟩ ?_
                      refine J.condF rfl rfl ?_
                      refine J.skip ?_
                      refine J.then_n (J.k hK79 ?_)
                      refine J.keepE [(3, _), (5, _), (8, _)] ⟨rfl, rfl, rfl, trivial⟩ ?_
                      refine J.seq (fun K83 hK83 => ?_)
                      refine J.region ?_
                      refine J.y (op_assign rfl rfl) rfl rfl rfl ?_
                      refine J.y (op_assign rfl rfl) rfl rfl rfl ?_
                      refine J.nil ?_
                      refine J.then_n (J.k hK83 ?_)
                      refine J.keepE [(3, _), (5, _), (6, _), (7, _), (8, _)] ⟨rfl, rfl, rfl, rfl, rfl, trivial⟩ ?_
                      refine J.exit ?_
                      refine J.then_x ?_
                      refine J.blk_eq ?_
                      refine J.then_n (J.k hK14 ?_)
                      refine J.keepE [(3, _), (5, _), (6, _), (7, _), (8, _)] ⟨rfl, rfl, rfl, rfl, rfl, trivial⟩ ?_
                      refine J.region ?_
                      refine J.y (op_move rfl rfl) rfl rfl rfl ?_
                      refine J.y ((op_add rfl rfl rfl (by first | omega | (simp only [List.length_append, List.length_cons, List.length_nil, List.length_take, List.length_drop] at *; omega))).as (v' := I ((i + 1 : Nat) : Int)) (congrArg I (by omega))) rfl rfl rfl ?_
                      refine J.y (op_assign rfl rfl) rfl rfl rfl ?_
                      refine J.nil ?_
                      refine J.then_n ?_
                      exact J.kk (i + 1, a, 0, false) (fun η (hη : _ ∧ (rlo s).length + 1 - η.1 < (rlo s).length + 1 - i) => hI0 η hη.1 hη.2) ⟨⟨by first | exact whyI_let hi (by omega) (by unfold sepr; rw [decide_eq_true_eq]; omega) (by omega) | exact whyI_end hi (by omega) (by simpa using h60) (good_yes (by omega)) | exact whyI_sep hi (by omega) (by unfold sepr; rw [decide_eq_true_eq]; omega) (by simpa using h60) (good_yes (by omega)) (by first | rw [if_pos (by omega)] | rw [if_neg (by omega)]), by dsimp only; omega⟩, by first | omega | (dsimp only; omega)⟩ ⟨rfl, rfl, rfl, rfl, rfl, trivial⟩ (fun _ h => h)
                ·
                  refine J.no (Wan.is rfl rfl rfl rfl rfl) rfl rfl ?_
                  refine J.no (Wan.is rfl rfl rfl rfl rfl) rfl rfl ?_
                  refine J.yg (Wan.is rfl rfl rfl rfl rfl) (op_pickF rfl rfl rfl) rfl rfl ?_
                  refine J.yg (Wan.is rfl rfl rfl rfl rfl) (op_move rfl rfl) rfl rfl ?_
                  refine J.no (Wan.is rfl rfl rfl rfl rfl) rfl rfl ?_
                  refine J.no (Wan.is rfl rfl rfl rfl rfl) rfl rfl ?_
                  refine J.yg (Wan.is rfl rfl rfl rfl rfl) (op_pickF rfl rfl rfl) rfl rfl ?_
                  refine J.yg (Wan.is rfl rfl rfl rfl rfl) (op_move rfl rfl) rfl rfl ?_
                  refine J.no (Wan.is rfl rfl rfl rfl rfl) rfl rfl ?_
                  refine J.no (Wan.is rfl rfl rfl rfl rfl) rfl rfl ?_
                  refine J.yg (Wan.is rfl rfl rfl rfl rfl) (op_pickF rfl rfl rfl) rfl rfl ?_
                  refine J.y (op_pickF rfl rfl rfl) rfl rfl rfl ?_
                  refine J.nil ?_
                  refine J.then_n (J.k hK66 ?_)
                  refine J.keepE [(3, _), (5, _), (8, _), (75, _)] ⟨rfl, rfl, rfl, rfl, trivial⟩ ?_
                  refine J.condF rfl rfl ?_
                  refine J.skip ?_
                  refine J.then_n (J.k hK65 ?_)
                  refine J.keepE [(3, _), (5, _), (8, _)] ⟨rfl, rfl, rfl, trivial⟩ ?_
                  refine J.seq (fun K84 hK84 => ?_)
                  refine J.seq (fun K85 hK85 => ?_)
                  refine J.region ?_
                  refine J.y (op_move rfl rfl) rfl rfl rfl ?_
                  refine J.y (op_move rfl rfl) rfl rfl rfl ?_
                  refine J.y (op_len Tryd.underlying27 rfl rfl) rfl rfl rfl ?_
                  refine J.y (op_lss rfl rfl rfl) rfl rfl rfl ?_
                  refine J.y (op_move rfl rfl) rfl rfl rfl ?_
                  refine J.split (d := 80) rfl (fun h80 => ?_) (fun h80 => ?_)
                  ·
                    refine J.yg (Wan.is rfl rfl rfl rfl rfl) (op_move rfl rfl) rfl rfl ?_
                    refine J.yg (Wan.is rfl rfl rfl rfl rfl) (op_move rfl rfl) rfl rfl ?_
                    refine J.yg (Wan.is rfl rfl rfl rfl rfl) (op_indexAddr (i := i) rfl rfl rfl Tryd.underlying27 Tryd.sizeOf3 h12.sl (by first | omega | (simp only [List.length_append, List.length_cons, List.length_nil, List.length_take, List.length_drop] at *; omega))) rfl rfl ?_
                    refine J.yg (Wan.is rfl rfl rfl rfl rfl) (op_load rfl rfl Tryd.isAgg3 (m := m12) (by simp) (h12.sl.elem (natsV_get (by first | omega | (simp only [List.length_append, List.length_cons, List.length_nil, List.length_take, List.length_drop] at *; omega))))) rfl rfl ?_
                    refine J.yg (Wan.is rfl rfl rfl rfl rfl) (op_eql rfl rfl rfl) rfl rfl ?_
                    refine J.y (op_pickT rfl rfl rfl) rfl rfl rfl ?_
                    refine J.nil ?_
                    refine J.then_n (J.k hK85 ?_)
                    refine J.keepE [(3, _), (5, _), (8, _), (86, _)] ⟨rfl, rfl, rfl, rfl, trivial⟩ ?_
                    refine J.ite rfl (fun h86 => ?_) (fun h86 => ?_)
                    ·
                      refine J.region ?_
                      refine J.y (op_move rfl rfl) rfl rfl rfl ?_
                      refine J.y ((op_add rfl rfl rfl (by first | omega | (simp only [List.length_append, List.length_cons, List.length_nil, List.length_take, List.length_drop] at *; omega))).as (v' := I ((a + 1 : Nat) : Int)) (congrArg I (by omega))) rfl rfl rfl ?_
                      refine J.y (op_assign rfl rfl) rfl rfl rfl ?_
                      refine J.nil ?_
                      refine J.then_n (J.k hK84 ?_)
                      refine J.keepE [(3, _), (5, _), (8, _)] ⟨rfl, rfl, rfl, trivial⟩ ?_
                      refine J.seq (fun K86 hK86 => ?_)
                      refine J.region ?_
                      refine J.y (op_assign rfl rfl) rfl rfl rfl ?_
                      refine J.y (op_assign rfl rfl) rfl rfl rfl ?_
                      refine J.nil ?_
                      refine J.then_n (J.k hK86 ?_)
                      refine J.keepE [(3, _), (5, _), (6, _), (7, _), (8, _)] ⟨rfl, rfl, rfl, rfl, rfl, trivial⟩ ?_
                      refine J.exit ?_
                      refine J.then_x ?_
                      refine J.blk_eq ?_
                      refine J.then_n (J.k hK14 ?_)
                      refine J.keepE [(3, _), (5, _), (6, _), (7, _), (8, _)] ⟨rfl, rfl, rfl, rfl, rfl, trivial⟩ ?_
                      refine J.region ?_
                      refine J.y (op_move rfl rfl) rfl rfl rfl ?_
                      refine J.y ((op_add rfl rfl rfl (by first | omega | (simp only [List.length_append, List.length_cons, List.length_nil, List.length_take, List.length_drop] at *; omega))).as (v' := I ((i + 1 : Nat) : Int)) (congrArg I (by omega))) rfl rfl rfl ?_
                      refine J.y (op_assign rfl rfl) rfl rfl rfl ?_
                      refine J.nil ?_
                      refine J.then_n ?_
                      exact J.kk (i + 1, a + 1, 0, false) (fun η (hη : _ ∧ (rlo s).length + 1 - η.1 < (rlo s).length + 1 - i) => hI0 η hη.1 hη.2) ⟨⟨by first | exact whyI_let hi (by omega) (by unfold sepr; rw [decide_eq_true_eq]; omega) (by omega) | exact whyI_end hi (by omega) (by simpa using h60) (good_yes (by omega)) | exact whyI_sep hi (by omega) (by unfold sepr; rw [decide_eq_true_eq]; omega) (by simpa using h60) (good_yes (by omega)) (by first | rw [if_pos (by omega)] | rw [if_neg (by omega)]), by dsimp only; omega⟩, by first | omega | (dsimp only; omega)⟩ ⟨rfl, rfl, rfl, rfl, rfl, trivial⟩ (fun _ h => h)
                    ·
                      refine J.skip ?_
                      refine J.then_n (J.k hK84 ?_)
                      refine J.keepE [(3, _), (5, _), (8, _)] ⟨rfl, rfl, rfl, trivial⟩ ?_
                      refine J.seq (fun K87 hK87 => ?_)
                      refine J.region ?_
                      refine J.y (op_assign rfl rfl) rfl rfl rfl ?_
                      refine J.y (op_assign rfl rfl) rfl rfl rfl ?_
                      refine J.nil ?_
                      refine J.then_n (J.k hK87 ?_)
                      refine J.keepE [(3, _), (5, _), (6, _), (7, _), (8, _)] ⟨rfl, rfl, rfl, rfl, rfl, trivial⟩ ?_
                      refine J.exit ?_
                      refine J.then_x ?_
                      refine J.blk_eq ?_
                      refine J.then_n (J.k hK14 ?_)
                      refine J.keepE [(3, _), (5, _), (6, _), (7, _), (8, _)] ⟨rfl, rfl, rfl, rfl, rfl, trivial⟩ ?_
                      refine J.region ?_
                      refine J.y (op_move rfl rfl) rfl rfl rfl ?_
                      refine J.y ((op_add rfl rfl rfl (by first | omega | (simp only [List.length_append, List.length_cons, List.length_nil, List.length_take, List.length_drop] at *; omega))).as (v' := I ((i + 1 : Nat) : Int)) (congrArg I (by omega))) rfl rfl rfl ?_
                      refine J.y (op_assign rfl rfl) rfl rfl rfl ?_
                      refine J.nil ?_
                      refine J.then_n ?_
                      exact J.kk (i + 1, a, 0, false) (fun η (hη : _ ∧ (rlo s).length + 1 - η.1 < (rlo s).length + 1 - i) => hI0 η hη.1 hη.2) ⟨⟨by first | exact whyI_let hi (by omega) (by unfold sepr; rw [decide_eq_true_eq]; omega) (by omega) | exact whyI_end hi (by omega) (by simpa using h60) (good_yes (by omega)) | exact whyI_sep hi (by omega) (by unfold sepr; rw [decide_eq_true_eq]; omega) (by simpa using h60) (good_yes (by omega)) (by first | rw [if_pos (by omega)] | rw [if_neg (by omega)]), by dsimp only; omega⟩, by first | omega | (dsimp only; omega)⟩ ⟨rfl, rfl, rfl, rfl, rfl, trivial⟩ (fun _ h => h)
                  ·
                    refine J.no (Wan.is rfl rfl rfl rfl rfl) rfl rfl ?_
                    refine J.no (Wan.is rfl rfl rfl rfl rfl) rfl rfl ?_
                    refine J.no (Wan.is rfl rfl rfl rfl rfl) rfl rfl ?_
                    refine J.no (Wan.is rfl rfl rfl rfl rfl) rfl rfl ?_
                    refine J.no (Wan.is rfl rfl rfl rfl rfl) rfl rfl ?_
                    refine J.y (op_pickF rfl rfl rfl) rfl rfl rfl ?_
                    refine J.nil ?_
                    refine J.then_n (J.k hK85 ?_)
                    refine J.keepE [(3, _), (5, _), (8, _), (86, _)] ⟨rfl, rfl, rfl, rfl, trivial⟩ ?_
                    refine J.condF rfl rfl ?_
                    refine J.skip ?_
                    refine J.then_n (J.k hK84 ?_)
                    refine J.keepE [(3, _), (5, _), (8, _)] ⟨rfl, rfl, rfl, trivial⟩ ?_
                    refine J.seq (fun K88 hK88 => ?_)
                    refine J.region ?_
                    refine J.y (op_assign rfl rfl) rfl rfl rfl ?_
                    refine J.y (op_assign rfl rfl) rfl rfl rfl ?_
                    refine J.nil ?_
                    refine J.then_n (J.k hK88 ?_)
                    refine J.keepE [(3, _), (5, _), (6, _), (7, _), (8, _)] ⟨rfl, rfl, rfl, rfl, rfl, trivial⟩ ?_
                    refine J.exit ?_
                    refine J.then_x ?_
                    refine J.blk_eq ?_
                    refine J.then_n (J.k hK14 ?_)
                    refine J.keepE [(3, _), (5, _), (6, _), (7, _), (8, _)] ⟨rfl, rfl, rfl, rfl, rfl, trivial⟩ ?_
                    refine J.region ?_
                    refine J.y (op_move rfl rfl) rfl rfl rfl ?_
                    refine J.y ((op_add rfl rfl rfl (by first | omega | (simp only [List.length_append, List.length_cons, List.length_nil, List.length_take, List.length_drop] at *; omega))).as (v' := I ((i + 1 : Nat) : Int)) (congrArg I (by omega))) rfl rfl rfl ?_
                    refine J.y (op_assign rfl rfl) rfl rfl rfl ?_
                    refine J.nil ?_
                    refine J.then_n ?_
                    exact J.kk (i + 1, a, 0, false) (fun η (hη : _ ∧ (rlo s).length + 1 - η.1 < (rlo s).length + 1 - i) => hI0 η hη.1 hη.2) ⟨⟨by first | exact whyI_let hi (by omega) (by unfold sepr; rw [decide_eq_true_eq]; omega) (by omega) | exact whyI_end hi (by omega) (by simpa using h60) (good_yes (by omega)) | exact whyI_sep hi (by omega) (by unfold sepr; rw [decide_eq_true_eq]; omega) (by simpa using h60) (good_yes (by omega)) (by first | rw [if_pos (by omega)] | rw [if_neg (by omega)]), by dsimp only; omega⟩, by first | omega | (dsimp only; omega)⟩ ⟨rfl, rfl, rfl, rfl, rfl, trivial⟩ (fun _ h => h)
            ·
              refine J.yg (Wan.is rfl rfl rfl rfl rfl) (op_move rfl rfl) rfl rfl ?_
              refine J.yg (Wan.is rfl rfl rfl rfl rfl) (op_move rfl rfl) rfl rfl ?_
              refine J.yg (Wan.is rfl rfl rfl rfl rfl) (op_indexAddr (i := i) rfl rfl rfl Tryd.underlying27 Tryd.sizeOf3 h12.sl (by first | omega | (simp only [List.length_append, List.length_cons, List.length_nil, List.length_take, List.length_drop] at *; omega))) rfl rfl ?_
              refine J.yg (Wan.is rfl rfl rfl rfl rfl) (op_load rfl rfl Tryd.isAgg3 (m := m12) (by simp) (h12.sl.elem (natsV_get (by first | omega | (simp only [List.length_append, List.length_cons, List.length_nil, List.length_take, List.length_drop] at *; omega))))) rfl rfl ?_
              refine J.yg (Wan.is rfl rfl rfl rfl rfl) (op_eql rfl rfl rfl) rfl rfl ?_
              refine J.y (op_pickF rfl rfl rfl) rfl rfl rfl ?_
              refine J.y (op_move rfl rfl) rfl rfl rfl ?_
              refine J.split (d := 51) rfl (fun h51 => ?_) (fun h51 => ?_)
              ·
                refine J.no (Wan.is rfl rfl rfl rfl rfl) rfl rfl ?_
                refine J.no (Wan.is rfl rfl rfl rfl rfl) rfl rfl ?_
                refine J.no (Wan.is rfl rfl rfl rfl rfl) rfl rfl ?_
                refine J.no (Wan.is rfl rfl rfl rfl rfl) rfl rfl ?_
                refine J.no (Wan.is rfl rfl rfl rfl rfl) rfl rfl ?_
                refine J.y (op_pickT rfl rfl rfl) rfl rfl rfl ?_
                refine J.nil ?_
                refine J.then_n (J.k hK16 ?_)
                refine J.keepE [(3, _), (5, _), (6, _), (7, _), (8, _), (57, _)] ⟨rfl, rfl, rfl, rfl, rfl, rfl, trivial⟩ ?_
                refine J.condT rfl rfl ?_
                refine J.seq (fun K89 hK89 => ?_)
                refine J.seq (fun K90 hK90 => ?_)
                refine J.region ?_
                refine J.y (op_move rfl rfl) rfl rfl rfl ?_
                refine J.y (op_not rfl rfl) rfl rfl rfl ?_
                refine J.y (op_move rfl rfl) rfl rfl rfl ?_
                refine J.splitB (d := 60) rfl (fun h60 => ?_) (fun h60 => ?_)
                ·
                  refine J.no (Wan.is rfl rfl rfl rfl rfl) rfl rfl ?_
                  refine J.no (Wan.is rfl rfl rfl rfl rfl) rfl rfl ?_
                  refine J.no (Wan.is rfl rfl rfl rfl rfl) rfl rfl ?_
                  refine J.no (Wan.un rfl rfl rfl rfl) rfl rfl ?_
                  refine J.no (Wan.un rfl rfl rfl rfl) rfl rfl ?_
                  refine J.no (Wan.is rfl rfl rfl rfl rfl) rfl rfl ?_
                  refine J.no (Wan.is rfl rfl rfl rfl rfl) rfl rfl ?_
                  refine J.no (Wan.un rfl rfl rfl rfl) rfl rfl ?_
                  refine J.no (Wan.un rfl rfl rfl rfl) rfl rfl ?_
                  refine J.no (Wan.is rfl rfl rfl rfl rfl) rfl rfl ?_
                  refine J.no (Wan.is rfl rfl rfl rfl rfl) rfl rfl ?_
                  refine J.no (Wan.un rfl rfl rfl rfl) rfl rfl ?_
                  refine J.no (Wan.un rfl rfl rfl rfl) rfl rfl ?_
                  refine J.no (Wan.is rfl rfl rfl rfl rfl) rfl rfl ?_
                  refine J.y (op_pickT rfl rfl rfl) rfl rfl rfl ?_
                  refine J.nil ?_
                  refine J.then_n (J.k hK90 ?_)
                  refine J.keepE [(3, _), (5, _), (8, _), (75, _)] ⟨rfl, rfl, rfl, rfl, trivial⟩ ?_
                  refine J.condT rfl rfl ?_
                  refine J.seq (fun K91 hK91 => ?_)
                  refine J.region ?_
                  refine J.y (op_assign rfl rfl) rfl rfl rfl ?_
                  refine J.nil ?_
                  refine J.then_n (J.k hK91 ?_)
                  refine J.keepE [(2, _)] ⟨rfl, trivial⟩ ?_
                  refine J.ret ?_
                  refine J.then_r ?_
                  refine J.then_r ?_
                  refine J.blk_r ?_
                  refine J.then_r ?_
                  refine J.then_r ?_
                  refine J.blk_r ?_
                  refine J.then_r ?_
                  exact J.done hw0 (fun _ _ h => h) (res1 rfl rfl) (retOk () (by first | (exfalso; omega) | exact why_is5 hwn (whyI_bad hi (by omega) (by first | (left; omega) | (right; exact (by unfold sepr; rw [decide_eq_true_eq]; omega))) (by first | (left; simpa using h60) | (right; exact good_no (by omega)))) | exact why_is5 hwn (whyI_bad2 hi (by omega) (by unfold sepr; rw [decide_eq_true_eq]; omega) (by omega)) | exact why_is5 hwn ((whyI_fin hi (by omega)).trans (decide_eq_false (by omega))) | exact why_is0 hwn ((whyI_fin hi (by omega)).trans (decide_eq_true (by omega)))) trivial [0] rfl (by decide))
                ·
                  refine J.yg (Wan.is rfl rfl rfl rfl rfl) (op_move rfl rfl) rfl rfl ?_
                  refine J.yg (Wan.is rfl rfl rfl rfl rfl) (op_neq rfl rfl rfl) rfl rfl ?_
                  refine J.yg (Wan.is rfl rfl rfl rfl rfl) (op_move rfl rfl) rfl rfl ?_
                  refine J.split (d := 63) rfl (fun h63 => ?_) (fun h63 => ?_)
                  ·
                    refine J.yg (Wan.is rfl rfl rfl rfl rfl) (op_move rfl rfl) rfl rfl ?_
                    refine J.yg (Wan.is rfl rfl rfl rfl rfl) (op_neq rfl rfl rfl) rfl rfl ?_
                    refine J.yg (Wan.is rfl rfl rfl rfl rfl) (op_pickT rfl rfl rfl) rfl rfl ?_
                    refine J.yg (Wan.is rfl rfl rfl rfl rfl) (op_move rfl rfl) rfl rfl ?_
                    refine J.split (d := 67) rfl (fun h67 => ?_) (fun h67 => ?_)
                    ·
                      refine J.yg (Wan.is rfl rfl rfl rfl rfl) (op_move rfl rfl) rfl rfl ?_
                      refine J.yg (Wan.is rfl rfl rfl rfl rfl) (op_neq rfl rfl rfl) rfl rfl ?_
                      refine J.yg (Wan.is rfl rfl rfl rfl rfl) (op_pickT rfl rfl rfl) rfl rfl ?_
                      refine J.yg (Wan.is rfl rfl rfl rfl rfl) (op_move rfl rfl) rfl rfl ?_
                      refine J.split (d := 71) rfl (fun h71 => ?_) (fun h71 => ?_)
                      ·
                        refine J.yg (Wan.is rfl rfl rfl rfl rfl) (op_move rfl rfl) rfl rfl ?_
                        refine J.yg (Wan.is rfl rfl rfl rfl rfl) (op_neq rfl rfl rfl) rfl rfl ?_
                        refine J.yg (Wan.is rfl rfl rfl rfl rfl) (op_pickT rfl rfl rfl) rfl rfl ?_
                        refine J.y (op_pickF rfl rfl rfl) rfl rfl rfl ?_
                        refine J.nil ?_
                        refine J.then_n (J.k hK90 ?_)
                        refine J.keepE [(3, _), (5, _), (8, _), (75, _)] ⟨rfl, rfl, rfl, rfl, trivial⟩ ?_
                        refine J.ite rfl (fun h75 => ?_) (fun h75 => ?_)
                        ·
                          refine J.seq (fun K92 hK92 => ?_)
                          refine J.region ?_
                          refine J.y (op_assign rfl rfl) rfl rfl rfl ?_
                          refine J.nil ?_
                          refine J.then_n (J.k hK92 ?_)
                          refine J.keepE [(2, _)] ⟨rfl, trivial⟩ ?_
                          refine J.ret ?_
                          refine J.then_r ?_
                          refine J.then_r ?_
                          refine J.blk_r ?_
                          refine J.then_r ?_
                          refine J.then_r ?_
                          refine J.blk_r ?_
                          refine J.then_r ?_
                          exact J.done hw0 (fun _ _ h => h) (res1 rfl rfl) (retOk () (by first | (exfalso; omega) | exact why_is5 hwn (whyI_bad hi (by omega) (by first | (left; omega) | (right; exact (by unfold sepr; rw [decide_eq_true_eq]; omega))) (by first | (left; simpa using h60) | (right; exact good_no (by omega)))) | exact why_is5 hwn (whyI_bad2 hi (by omega) (by unfold sepr; rw [decide_eq_true_eq]; omega) (by omega)) | exact why_is5 hwn ((whyI_fin hi (by omega)).trans (decide_eq_false (by omega))) | exact why_is0 hwn ((whyI_fin hi (by omega)).trans (decide_eq_true (by omega)))) trivial [0] rfl (by decide))
                        ·
                          refine J.skip ?_
                          refine J.then_n (J.k hK89 ?_)
                          refine J.keepE [(3, _), (5, _), (8, _)] ⟨rfl, rfl, rfl, trivial⟩ ?_
                          refine J.seq (fun K93 hK93 => ?_)
                          refine J.seq (fun K94 hK94 => ?_)
                          refine J.region ?_
                          refine J.y (op_move rfl rfl) rfl rfl rfl ?_
                          refine J.y (op_move rfl rfl) rfl rfl rfl ?_
                          refine J.y (op_len Tryd.underlying27 rfl rfl) rfl rfl rfl ?_
                          refine J.y (op_lss rfl rfl rfl) rfl rfl rfl ?_
                          refine J.y (op_move rfl rfl) rfl rfl rfl ?_
                          refine J.split (d := 80) rfl (fun h80 => ?_) (fun h80 => ?_)
                          ·
                            refine J.yg (Wan.is rfl rfl rfl rfl rfl) (op_move rfl rfl) rfl rfl ?_
                            refine J.yg (Wan.is rfl rfl rfl rfl rfl) (op_move rfl rfl) rfl rfl ?_
                            refine J.yg (Wan.is rfl rfl rfl rfl rfl) (op_indexAddr (i := i) rfl rfl rfl Tryd.underlying27 Tryd.sizeOf3 h12.sl (by first | omega | (simp only [List.length_append, List.length_cons, List.length_nil, List.length_take, List.length_drop] at *; omega))) rfl rfl ?_
                            refine J.yg (Wan.is rfl rfl rfl rfl rfl) (op_load rfl rfl Tryd.isAgg3 (m := m12) (by simp) (h12.sl.elem (natsV_get (by first | omega | (simp only [List.length_append, List.length_cons, List.length_nil, List.length_take, List.length_drop] at *; omega))))) rfl rfl ?_
                            refine J.yg (Wan.is rfl rfl rfl rfl rfl) (op_eql rfl rfl rfl) rfl rfl ?_
                            refine J.y (op_pickT rfl rfl rfl) rfl rfl rfl ?_
                            refine J.nil ?_
                            refine J.then_n (J.k hK94 ?_)
                            refine J.keepE [(3, _), (5, _), (8, _), (86, _)] ⟨rfl, rfl, rfl, rfl, trivial⟩ ?_
                            refine J.ite rfl (fun h86 => ?_) (fun h86 => ?_)
                            ·
                              refine J.region ?_
                              refine J.y (op_move rfl rfl) rfl rfl rfl ?_
                              refine J.y ((op_add rfl rfl rfl (by first | omega | (simp only [List.length_append, List.length_cons, List.length_nil, List.length_take, List.length_drop] at *; omega))).as (v' := I ((a + 1 : Nat) : Int)) (congrArg I (by omega))) rfl rfl rfl ?_
                              refine J.y (op_assign rfl rfl) rfl rfl rfl ?_
                              refine J.nil ?_
                              refine J.then_n (J.k hK93 ?_)
                              refine J.keepE [(3, _), (5, _), (8, _)] ⟨rfl, rfl, rfl, trivial⟩ ?_
                              refine J.seq (fun K95 hK95 => ?_)
                              refine J.region ?_
                              refine J.y (op_assign rfl rfl) rfl rfl rfl ?_
                              refine J.y (op_assign rfl rfl) rfl rfl rfl ?_
                              refine J.nil ?_
                              refine J.then_n (J.k hK95 ?_)
                              refine J.keepE [(3, _), (5, _), (6, _), (7, _), (8, _)] ⟨rfl, rfl, rfl, rfl, rfl, trivial⟩ ?_
                              refine J.exit ?_
                              refine J.then_x ?_
                              refine J.blk_eq ?_
                              refine J.then_n (J.k hK14 ?_)
                              refine J.keepE [(3, _), (5, _), (6, _), (7, _), (8, _)] ⟨rfl, rfl, rfl, rfl, rfl, trivial⟩ ?_
                              refine J.region ?_
                              refine J.y (op_move rfl rfl) rfl rfl rfl ?_
                              refine J.y ((op_add rfl rfl rfl (by first | omega | (simp only [List.length_append, List.length_cons, List.length_nil, List.length_take, List.length_drop] at *; omega))).as (v' := I ((i + 1 : Nat) : Int)) (congrArg I (by omega))) rfl rfl rfl ?_
                              refine J.y (op_assign rfl rfl) rfl rfl rfl ?_
                              refine J.nil ?_
                              refine J.then_n ?_
                              exact J.kk (i + 1, a + 1, 0, false) (fun η (hη : _ ∧ (rlo s).length + 1 - η.1 < (rlo s).length + 1 - i) => hI0 η hη.1 hη.2) ⟨⟨by first | exact whyI_let hi (by omega) (by unfold sepr; rw [decide_eq_true_eq]; omega) (by omega) | exact whyI_end hi (by omega) (by simpa using h60) (good_yes (by omega)) | exact whyI_sep hi (by omega) (by unfold sepr; rw [decide_eq_true_eq]; omega) (by simpa using h60) (good_yes (by omega)) (by first | rw [if_pos (by omega)] | rw [if_neg (by omega)]), by dsimp only; omega⟩, by first | omega | (dsimp only; omega)⟩ ⟨rfl, rfl, rfl, rfl, rfl, trivial⟩ (fun _ h => h)
                            ·
                              refine J.skip ?_
                              refine J.then_n (J.k hK93 ?_)
                              refine J.keepE [(3, _), (5, _), (8, _)] ⟨rfl, rfl, rfl, trivial⟩ ?_
                              refine J.seq (fun K96 hK96 => ?_)
                              refine J.region ?_
                              refine J.y (op_assign rfl rfl) rfl rfl rfl ?_
                              refine J.y (op_assign rfl rfl) rfl rfl rfl ?_
                              refine J.nil ?_
                              refine J.then_n (J.k hK96 ?_)
                              refine J.keepE [(3, _), (5, _), (6, _), (7, _), (8, _)] ⟨rfl, rfl, rfl, rfl, rfl, trivial⟩ ?_
                              refine J.exit ?_
                              refine J.then_x ?_
                              refine J.blk_eq ?_
                              refine J.then_n (J.k hK14 ?_)
                              refine J.keepE [(3, _), (5, _), (6, _), (7, _), (8, _)] ⟨rfl, rfl, rfl, rfl, rfl, trivial⟩ ?_
                              refine J.region ?_
                              refine J.y (op_move rfl rfl) rfl rfl rfl ?_
                              refine J.y ((op_add rfl rfl rfl (by first | omega | (simp only [List.length_append, List.length_cons, List.length_nil, List.length_take, List.length_drop] at *; omega))).as (v' := I ((i + 1 : Nat) : Int)) (congrArg I (by omega))) rfl rfl rfl ?_
                              refine J.y (op_assign rfl rfl) rfl rfl rfl ?_
                              refine J.nil ?_
                              refine J.then_n ?_
                              exact J.kk (i + 1, a, 0, false) (fun η (hη : _ ∧ (rlo s).length + 1 - η.1 < (rlo s).length + 1 - i) => hI0 η hη.1 hη.2) ⟨⟨by first | exact whyI_let hi (by omega) (by unfold sepr; rw [decide_eq_true_eq]; omega) (by omega) | exact whyI_end hi (by omega) (by simpa using h60) (good_yes (by omega)) | exact whyI_sep hi (by omega) (by unfold sepr; rw [decide_eq_true_eq]; omega) (by simpa using h60) (good_yes (by omega)) (by first | rw [if_pos (by omega)] | rw [if_neg (by omega)]), by dsimp only; omega⟩, by first | omega | (dsimp only; omega)⟩ ⟨rfl, rfl, rfl, rfl, rfl, trivial⟩ (fun _ h => h)
                          ·
                            refine J.no (Wan.is rfl rfl rfl rfl rfl) rfl rfl ?_
                            refine J.no (Wan.is rfl rfl rfl rfl rfl) rfl rfl ?_
                            refine J.no (Wan.is rfl rfl rfl rfl rfl) rfl rfl ?_
                            refine J.no (Wan.is rfl rfl rfl rfl rfl) rfl rfl ?_
                            refine J.no (Wan.is rfl rfl rfl rfl rfl) rfl rfl ?_
                            refine J.y (op_pickF rfl rfl rfl) rfl rfl rfl ?_
                            refine J.nil ?_
                            refine J.then_n (J.k hK94 ?_)
                            refine J.keepE [(3, _), (5, _), (8, _), (86, _)] ⟨rfl, rfl, rfl, rfl, trivial⟩ ?_
                            refine J.condF rfl rfl ?_
                            refine J.skip ?_
                            refine J.then_n (J.k hK93 ?_)
                            refine J.keepE [(3, _), (5, _), (8, _)] ⟨rfl, rfl, rfl, trivial⟩ ?_
                            refine J.seq (fun K97 hK97 => ?_)
                            refine J.region ?_
                            refine J.y (op_assign rfl rfl) rfl rfl rfl ?_
                            refine J.y (op_assign rfl rfl) rfl rfl rfl ?_
                            refine J.nil ?_
                            refine J.then_n (J.k hK97 ?_)
                            refine J.keepE [(3, _), (5, _), (6, _), (7, _), (8, _)] ⟨rfl, rfl, rfl, rfl, rfl, trivial⟩ ?_
                            refine J.exit ?_
                            refine J.then_x ?_
                            refine J.blk_eq ?_
                            refine J.then_n (J.k hK14 ?_)
                            refine J.keepE [(3, _), (5, _), (6, _), (7, _), (8, _)] ⟨rfl, rfl, rfl, rfl, rfl, trivial⟩ ?_
                            refine J.region ?_
                            refine J.y (op_move rfl rfl) rfl rfl rfl ?_
                            refine J.y ((op_add rfl rfl rfl (by first | omega | (simp only [List.length_append, List.length_cons, List.length_nil, List.length_take, List.length_drop] at *; omega))).as (v' := I ((i + 1 : Nat) : Int)) (congrArg I (by omega))) rfl rfl rfl ?_
                            refine J.y (op_assign rfl rfl) rfl rfl rfl ?_
                            refine J.nil ?_
                            refine J.then_n ?_
                            exact J.kk (i + 1, a, 0, false) (fun η (hη : _ ∧ (rlo s).length + 1 - η.1 < (rlo s).length + 1 - i) => hI0 η hη.1 hη.2) ⟨⟨by first | exact whyI_let hi (by omega) (by unfold sepr; rw [decide_eq_true_eq]; omega) (by omega) | exact whyI_end hi (by omega) (by simpa using h60) (good_yes (by omega)) | exact whyI_sep hi (by omega) (by unfold sepr; rw [decide_eq_true_eq]; omega) (by simpa using h60) (good_yes (by omega)) (by first | rw [if_pos (by omega)] | rw [if_neg (by omega)]), by dsimp only; omega⟩, by first | omega | (dsimp only; omega)⟩ ⟨rfl, rfl, rfl, rfl, rfl, trivial⟩ (fun _ h => h)
                      ·
                        refine J.no (Wan.is rfl rfl rfl rfl rfl) rfl rfl ?_
                        refine J.no (Wan.is rfl rfl rfl rfl rfl) rfl rfl ?_
                        refine J.yg (Wan.is rfl rfl rfl rfl rfl) (op_pickF rfl rfl rfl) rfl rfl ?_
                        refine J.y (op_pickF rfl rfl rfl) rfl rfl rfl ?_
                        refine J.nil ?_
                        refine J.then_n (J.k hK90 ?_)
                        refine J.keepE [(3, _), (5, _), (8, _), (75, _)] ⟨rfl, rfl, rfl, rfl, trivial⟩ ?_
                        refine J.condF rfl rfl ?_
                        refine J.skip ?_
                        refine J.then_n (J.k hK89 ?_)
                        refine J.keepE [(3, _), (5, _), (8, _)] ⟨rfl, rfl, rfl, trivial⟩ ?_
                        refine J.seq (fun K98 hK98 => ?_)
                        refine J.seq (fun K99 hK99 => ?_)
                        refine J.region ?_
                        refine J.y (op_move rfl rfl) rfl rfl rfl ?_
                        refine J.y (op_move rfl rfl) rfl rfl rfl ?_
                        refine J.y (op_len Tryd.underlying27 rfl rfl) rfl rfl rfl ?_
                        refine J.y (op_lss rfl rfl rfl) rfl rfl rfl ?_
                        refine J.y (op_move rfl rfl) rfl rfl rfl ?_
                        refine J.split (d := 80) rfl (fun h80 => ?_) (fun h80 => ?_)
                        ·
                          refine J.yg (Wan.is rfl rfl rfl rfl rfl) (op_move rfl rfl) rfl rfl ?_
                          refine J.yg (Wan.is rfl rfl rfl rfl rfl) (op_move rfl rfl) rfl rfl ?_
                          refine J.yg (Wan.is rfl rfl rfl rfl rfl) (op_indexAddr (i := i) rfl rfl rfl Tryd.underlying27 Tryd.sizeOf3 h12.sl (by first | omega | (simp only [List.length_append, List.length_cons, List.length_nil, List.length_take, List.length_drop] at *; omega))) rfl rfl ?_
                          refine J.yg (Wan.is rfl rfl rfl rfl rfl) (op_load rfl rfl Tryd.isAgg3 (m := m12) (by simp) (h12.sl.elem (natsV_get (by first | omega | (simp only [List.length_append, List.length_cons, List.length_nil, List.length_take, List.length_drop] at *; omega))))) rfl rfl ?_
                          refine J.yg (Wan.is rfl rfl rfl rfl rfl) (op_eql rfl rfl rfl) rfl rfl ?_
                          refine J.y (op_pickT rfl rfl rfl) rfl rfl rfl ?_
                          refine J.nil ?_
                          refine J.then_n (J.k hK99 ?_)
                          refine J.keepE [(3, _), (5, _), (8, _), (86, _)] ⟨rfl, rfl, rfl, rfl, trivial⟩ ?_
                          refine J.ite rfl (fun h86 => ?_) (fun h86 => ?_)
                          ·
                            refine J.region ?_
                            refine J.y (op_move rfl rfl) rfl rfl rfl ?_
                            refine J.y ((op_add rfl rfl rfl (by first | omega | (simp only [List.length_append, List.length_cons, List.length_nil, List.length_take, List.length_drop] at *; omega))).as (v' := I ((a + 1 : Nat) : Int)) (congrArg I (by omega))) rfl rfl rfl ?_
                            refine J.y (op_assign rfl rfl) rfl rfl rfl ?_
                            refine J.nil ?_
                            refine J.then_n (J.k hK98 ?_)
                            refine J.keepE [(3, _), (5, _), (8, _)] ⟨rfl, rfl, rfl, trivial⟩ ?_
                            refine J.seq (fun K100 hK100 => ?_)
                            refine J.region ?_
                            refine J.y (op_assign rfl rfl) rfl rfl rfl ?_
                            refine J.y (op_assign rfl rfl) rfl rfl rfl ?_
                            refine J.nil ?_
                            refine J.then_n (J.k hK100 ?_)
                            refine J.keepE [(3, _), (5, _), (6, _), (7, _), (8, _)] ⟨rfl, rfl, rfl, rfl, rfl, trivial⟩ ?_
                            refine J.exit ?_
                            refine J.then_x ?_
                            refine J.blk_eq ?_
                            refine J.then_n (J.k hK14 ?_)
                            refine J.keepE [(3, _), (5, _), (6, _), (7, _), (8, _)] ⟨rfl, rfl, rfl, rfl, rfl, trivial⟩ ?_
                            refine J.region ?_
                            refine J.y (op_move rfl rfl) rfl rfl rfl ?_
                            refine J.y ((op_add rfl rfl rfl (by first | omega | (simp only [List.length_append, List.length_cons, List.length_nil, List.length_take, List.length_drop] at *; omega))).as (v' := I ((i + 1 : Nat) : Int)) (congrArg I (by omega))) rfl rfl rfl ?_
                            refine J.y (op_assign rfl rfl) rfl rfl rfl ?_
                            refine J.nil ?_
                            refine J.then_n ?_
                            exact J.kk (i + 1, a + 1, 0, false) (fun η (hη : _ ∧ (rlo s).length + 1 - η.1 < (rlo s).length + 1 - i) => hI0 η hη.1 hη.2) ⟨⟨by first | exact whyI_let hi (by omega) (by unfold sepr; rw [decide_eq_true_eq]; omega) (by omega) | exact whyI_end hi (by omega) (by simpa using h60) (good_yes (by omega)) | exact whyI_sep hi (by omega) (by unfold sepr; rw [decide_eq_true_eq]; omega) (by simpa using h60) (good_yes (by omega)) (by first | rw [if_pos (by omega)] | rw [if_neg (by omega)]), by dsimp only; omega⟩, by first | omega | (dsimp only; omega)⟩ ⟨rfl, rfl, rfl, rfl, rfl, trivial⟩ (fun _ h => h)
                          ·
                            refine J.skip ?_
                            refine J.then_n (J.k hK98 ?_)
                            refine J.keepE [(3, _), (5, _), (8, _)] ⟨rfl, rfl, rfl, trivial⟩ ?_
                            refine J.seq (fun K101 hK101 => ?_)
                            refine J.region ?_
                            refine J.y (op_assign rfl rfl) rfl rfl rfl ?_
                            refine J.y (op_assign rfl rfl) rfl rfl rfl ?_
                            refine J.nil ?_
                            refine J.then_n (J.k hK101 ?_)
                            refine J.keepE [(3, _), (5, _), (6, _), (7, _), (8, _)] ⟨rfl, rfl, rfl, rfl, rfl, trivial⟩ ?_
                            refine J.exit ?_
                            refine J.then_x ?_
                            refine J.blk_eq ?_
                            refine J.then_n (J.k hK14 ?_)
                            refine J.keepE [(3, _), (5, _), (6, _), (7, _), (8, _)] ⟨rfl, rfl, rfl, rfl, rfl, trivial⟩ ?_
                            refine J.region ?_
                            refine J.y (op_move rfl rfl) rfl rfl rfl ?_
                            refine J.y ((op_add rfl rfl rfl (by first | omega | (simp only [List.length_append, List.length_cons, List.length_nil, List.length_take, List.length_drop] at *; omega))).as (v' := I ((i + 1 : Nat) : Int)) (congrArg I (by omega))) rfl rfl rfl ?_
                            refine J.y (op_assign rfl rfl) rfl rfl rfl ?_
                            refine J.nil ?_
                            refine J.then_n ?_
                            exact J.kk (i + 1, a, 0, false) (fun η (hη : _ ∧ (rlo s).length + 1 - η.1 < (rlo s).length + 1 - i) => hI0 η hη.1 hη.2) ⟨⟨by first | exact whyI_let hi (by omega) (by unfold sepr; rw [decide_eq_true_eq]; omega) (by omega) | exact whyI_end hi (by omega) (by simpa using h60) (good_yes (by omega)) | exact whyI_sep hi (by omega) (by unfold sepr; rw [decide_eq_true_eq]; omega) (by simpa using h60) (good_yes (by omega)) (by first | rw [if_pos (by omega)] | rw [if_neg (by omega)]), by dsimp only; omega⟩, by first | omega | (dsimp only; omega)⟩ ⟨rfl, rfl, rfl, rfl, rfl, trivial⟩ (fun _ h => h)
                        ·
                          refine J.no (Wan.is rfl rfl rfl rfl rfl) rfl rfl ?_
                          refine J.no (Wan.is rfl rfl rfl rfl rfl) rfl rfl ?_
                          refine J.no (Wan.is rfl rfl rfl rfl rfl) rfl rfl ?_
                          refine J.no (Wan.is rfl rfl rfl rfl rfl) rfl rfl ?_
                          refine J.no (Wan.is rfl rfl rfl rfl rfl) rfl rfl ?_
                          refine J.y (op_pickF rfl rfl rfl) rfl rfl rfl ?_
                          refine J.nil ?_
                          refine J.then_n (J.k hK99 ?_)
                          refine J.keepE [(3, _), (5, _), (8, _), (86, _)] ⟨rfl, rfl, rfl, rfl, trivial⟩ ?_
                          refine J.condF rfl rfl ?_
                          refine J.skip ?_
                          refine J.then_n (J.k hK98 ?_)
                          refine J.keepE [(3, _), (5, _), (8, _)] ⟨rfl, rfl, rfl, trivial⟩ ?_
                          refine J.seq (fun K102 hK102 => ?_)
                          refine J.region ?_
                          refine J.y (op_assign rfl rfl) rfl rfl rfl ?_
                          refine J.y (op_assign rfl rfl) rfl rfl rfl ?_
                          refine J.nil ?_
                          refine J.then_n (J.k hK102 ?_)
                          refine J.keepE [(3, _), (5, _), (6, _), (7, _), (8, _)] ⟨rfl, rfl, rfl, rfl, rfl, trivial⟩ ?_
                          refine J.exit ?_
                          refine J.then_x ?_
                          refine J.blk_eq ?_
                          refine J.then_n (J.k hK14 ?_)
                          refine J.keepE [(3, _), (5, _), (6, _), (7, _), (8, _)] ⟨rfl, rfl, rfl, rfl, rfl, trivial⟩ ?_
                          refine J.region ?_
                          refine J.y (op_move rfl rfl) rfl rfl rfl ?_
                          refine J.y ((op_add rfl rfl rfl (by first | omega | (simp only [List.length_append, List.length_cons, List.length_nil, List.length_take, List.length_drop] at *; omega))).as (v' := I ((i + 1 : Nat) : Int)) (congrArg I (by omega))) rfl rfl rfl ?_
                          refine J.y (op_assign rfl rfl) rfl rfl rfl ?_
                          refine J.nil ?_
                          refine J.then_n ?_
                          exact J.kk (i + 1, a, 0, false) (fun η (hη : _ ∧ (rlo s).length + 1 - η.1 < (rlo s).length + 1 - i) => hI0 η hη.1 hη.2) ⟨⟨by first | exact whyI_let hi (by omega) (by unfold sepr; rw [decide_eq_true_eq]; omega) (by omega) | exact whyI_end hi (by omega) (by simpa using h60) (good_yes (by omega)) | exact whyI_sep hi (by omega) (by unfold sepr; rw [decide_eq_true_eq]; omega) (by simpa using h60) (good_yes (by omega)) (by first | rw [if_pos (by omega)] | rw [if_neg (by omega)]), by dsimp only; omega⟩, by first | omega | (dsimp only; omega)⟩ ⟨rfl, rfl, rfl, rfl, rfl, trivial⟩ (fun _ h => h)
                    ·
                      refine J.no (Wan.is rfl rfl rfl rfl rfl) rfl rfl ?_
                      refine J.no (Wan.is rfl rfl rfl rfl rfl) rfl rfl ?_
                      refine J.yg (Wan.is rfl rfl rfl rfl rfl) (op_pickF rfl rfl rfl) rfl rfl ?_
                      refine J.yg (Wan.is rfl rfl rfl rfl rfl) (op_move rfl rfl) rfl rfl ?_
                      refine J.no (Wan.is rfl rfl rfl rfl rfl) rfl rfl ?_
                      refine J.no (Wan.is rfl rfl rfl rfl rfl) rfl rfl ?_
                      refine J.yg (Wan.is rfl rfl rfl rfl rfl) (op_pickF rfl rfl rfl) rfl rfl ?_
                      refine J.y (op_pickF rfl rfl rfl) rfl rfl rfl ?_
                      refine J.nil ?_
                      refine J.then_n (J.k hK90 ?_)
                      refine J.keepE [(3, _), (5, _), (8, _), (75, _)] ⟨rfl, rfl, rfl, rfl, trivial⟩ ?_
                      refine J.condF rfl rfl ?_
                      refine J.skip ?_
                      refine J.then_n (J.k hK89 ?_)
                      refine J.keepE [(3, _), (5, _), (8, _)] ⟨rfl, rfl, rfl, trivial⟩ ?_
                      refine J.seq (fun K103 hK103 => ?_)
                      refine J.seq (fun K104 hK104 => ?_)
                      refine J.region ?_
                      refine J.y (op_move rfl rfl) rfl rfl rfl ?_
                      refine J.y (op_move rfl rfl) rfl rfl rfl ?_
                      refine J.y (op_len Tryd.underlying27 rfl rfl) rfl rfl rfl ?_
                      refine J.y (op_lss rfl rfl rfl) rfl rfl rfl ?_
                      refine J.y (op_move rfl rfl) rfl rfl rfl ?_
                      refine J.split (d := 80) rfl (fun h80 => ?_) (fun h80 => ?_)
                      ·
                        refine J.yg (Wan.is rfl rfl rfl rfl rfl) (op_move rfl rfl) rfl rfl ?_
                        refine J.yg (Wan.is rfl rfl rfl rfl rfl) (op_move rfl rfl) rfl rfl ?_
                        refine J.yg (Wan.is rfl rfl rfl rfl rfl) (op_indexAddr (i := i) rfl rfl rfl Tryd.underlying27 Tryd.sizeOf3 h12.sl (by first | omega | (simp only [List.length_append, List.length_cons, List.length_nil, List.length_take, List.length_drop] at *; omega))) rfl rfl ?_
                        refine J.yg (Wan.is rfl rfl rfl rfl rfl) (op_load rfl rfl Tryd.isAgg3 (m := m12) (by simp) (h12.sl.elem (natsV_get (by first | omega | (simp only [List.length_append, List.length_cons, List.length_nil, List.length_take, List.length_drop] at *; omega))))) rfl rfl ?_
                        refine J.yg (Wan.is rfl rfl rfl rfl rfl) (op_eql rfl rfl rfl) rfl rfl ?_
                        refine J.y (op_pickT rfl rfl rfl) rfl rfl rfl ?_
                        refine J.nil ?_
                        refine J.then_n (J.k hK104 ?_)
                        refine J.keepE [(3, _), (5, _), (8, _), (86, _)] ⟨rfl, rfl, rfl, rfl, trivial⟩ ?_
                        refine J.ite rfl (fun h86 => ?_) (fun h86 => ?_)
                        ·
                          refine J.region ?_
                          refine J.y (op_move rfl rfl) rfl rfl rfl ?_
                          refine J.y ((op_add rfl rfl rfl (by first | omega | (simp only [List.length_append, List.length_cons, List.length_nil, List.length_take, List.length_drop] at *; omega))).as (v' := I ((a + 1 : Nat) : Int)) (congrArg I (by omega))) rfl rfl rfl ?_
                          refine J.y (op_assign rfl rfl) rfl rfl rfl ?_
                          refine J.nil ?_
                          refine J.then_n (J.k hK103 ?_)
                          refine J.keepE [(3, _), (5, _), (8, _)] ⟨rfl, rfl, rfl, trivial⟩ ?_
                          refine J.seq (fun K105 hK105 => ?_)
                          refine J.region ?_
                          refine J.y (op_assign rfl rfl) rfl rfl rfl ?_
                          refine J.y (op_assign rfl rfl) rfl rfl rfl ?_
                          refine J.nil ?_
                          refine J.then_n (J.k hK105 ?_)
                          refine J.keepE [(3, _), (5, _), (6, _), (7, _), (8, _)] ⟨rfl, rfl, rfl, rfl, rfl, trivial⟩ ?_
                          refine J.exit ?_
                          refine J.then_x ?_
                          refine J.blk_eq ?_
                          refine J.then_n (J.k hK14 ?_)
                          refine J.keepE [(3, _), (5, _), (6, _), (7, _), (8, _)] ⟨rfl, rfl, rfl, rfl, rfl, trivial⟩ ?_
                          refine J.region ?_
                          refine J.y (op_move rfl rfl) rfl rfl rfl ?_
                          refine J.y ((op_add rfl rfl rfl (by first | omega | (simp only [List.length_append, List.length_cons, List.length_nil, List.length_take, List.length_drop] at *; omega))).as (v' := I ((i + 1 : Nat) : Int)) (congrArg I (by omega))) rfl rfl rfl ?_
                          refine J.y (op_assign rfl rfl) rfl rfl rfl ?_
                          refine J.nil ?_
                          refine J.then_n ?_
                          exact J.kk (i + 1, a + 1, 0, false) (fun η (hη : _ ∧ (rlo s).length + 1 - η.1 < (rlo s).length + 1 - i) => hI0 η hη.1 hη.2) ⟨⟨by first | exact whyI_let hi (by omega) (by unfold sepr; rw [decide_eq_true_eq]; omega) (by omega) | exact whyI_end hi (by omega) (by simpa using h60) (good_yes (by omega)) | exact whyI_sep hi (by omega) (by unfold sepr; rw [decide_eq_true_eq]; omega) (by simpa using h60) (good_yes (by omega)) (by first | rw [if_pos (by omega)] | rw [if_neg (by omega)]), by dsimp only; omega⟩, by first | omega | (dsimp only; omega)⟩ ⟨rfl, rfl, rfl, rfl, rfl, trivial⟩ (fun _ h => h)
                        ·
                          refine J.skip ?_
                          refine J.then_n (J.k hK103 ?_)
                          refine J.keepE [(3, _), (5, _), (8, _)] ⟨rfl, rfl, rfl, trivial⟩ ?_
                          refine J.seq (fun K106 hK106 => ?_)
                          refine J.region ?_
                          refine J.y (op_assign rfl rfl) rfl rfl rfl ?_
                          refine J.y (op_assign rfl rfl) rfl rfl rfl ?_
                          refine J.nil ?_
                          refine J.then_n (J.k hK106 ?_)
                          refine J.keepE [(3, _), (5, _), (6, _), (7, _), (8, _)] ⟨rfl, rfl, rfl, rfl, rfl, trivial⟩ ?_
                          refine J.exit ?_
                          refine J.then_x ?_
                          refine J.blk_eq ?_
                          refine J.then_n (J.k hK14 ?_)
                          refine J.keepE [(3, _), (5, _), (6, _), (7, _), (8, _)] ⟨rfl, rfl, rfl, rfl, rfl, trivial⟩ ?_
                          refine J.region ?_
                          refine J.y (op_move rfl rfl) rfl rfl rfl ?_
                          refine J.y ((op_add rfl rfl rfl (by first | omega | (simp only [List.length_append, List.length_cons, List.length_nil, List.length_take, List.length_drop] at *; omega))).as (v' := I ((i + 1 : Nat) : Int)) (congrArg I (by omega))) rfl rfl rfl ?_
                          refine J.y (op_assign rfl rfl) rfl rfl rfl ?_
                          refine J.nil ?_
                          refine J.then_n ?_
                          exact J.kk (i + 1, a, 0, false) (fun η (hη : _ ∧ (rlo s).length + 1 - η.1 < (rlo s).length + 1 - i) => hI0 η hη.1 hη.2) ⟨⟨by first | exact whyI_let hi (by omega) (by unfold sepr; rw [decide_eq_true_eq]; omega) (by omega) | exact whyI_end hi (by omega) (by simpa using h60) (good_yes (by omega)) | exact whyI_sep hi (by omega) (by unfold sepr; rw [decide_eq_true_eq]; omega) (by simpa using h60) (good_yes (by omega)) (by first | rw [if_pos (by omega)] | rw [if_neg (by omega)]), by dsimp only; omega⟩, by first | omega | (dsimp only; omega)⟩ ⟨rfl, rfl, rfl, rfl, rfl, trivial⟩ (fun _ h => h)
                      ·
                        refine J.no (Wan.is rfl rfl rfl rfl rfl) rfl rfl ?_
                        refine J.no (Wan.is rfl rfl rfl rfl rfl) rfl rfl ?_
                        refine J.no (Wan.is rfl rfl rfl rfl rfl) rfl rfl ?_
                        refine J.no (Wan.is rfl rfl rfl rfl rfl) rfl rfl ?_
                        refine J.no (Wan.is rfl rfl rfl rfl rfl) rfl rfl ?_
                        refine J.y (op_pickF rfl rfl rfl) rfl rfl rfl ?_
                        refine J.nil ?_
                        refine J.then_n (J.k hK104 ?_)
                        refine J.keepE [(3, _), (5, _), (8, _), (86, _)] ⟨rfl, rfl, rfl, rfl, trivial⟩ ?_
                        refine J.condF rfl rfl ?_
                        refine J.skip ?_
                        refine J.then_n (J.k hK103 ?_)
                        refine J.keepE [(3, _), (5, _), (8, _)] ⟨rfl, rfl, rfl, trivial⟩ ?_
                        refine J.seq (fun K107 hK107 => ?_)
                        refine J.region ?_
                        refine J.y (op_assign rfl rfl) rfl rfl rfl ?_
                        refine J.y (op_assign rfl rfl) rfl rfl rfl ?_
                        refine J.nil ?_
                        refine J.then_n (J.k hK107 ?_)
                        refine J.keepE [(3, _), (5, _), (6, _), (7, _), (8, _)] ⟨rfl, rfl, rfl, rfl, rfl, trivial⟩ ?_
                        refine J.exit ?_
                        refine J.then_x ?_
                        refine J.blk_eq ?_
                        refine J.then_n (J.k hK14 ?_)
                        refine J.keepE [(3, _), (5, _), (6, _), (7, _), (8, _)] ⟨rfl, rfl, rfl, rfl, rfl, trivial⟩ ?_
                        refine J.region ?_
                        refine J.y (op_move rfl rfl) rfl rfl rfl ?_
                        refine J.y ((op_add rfl rfl rfl (by first | omega | (simp only [List.length_append, List.length_cons, List.length_nil, List.length_take, List.length_drop] at *; omega))).as (v' := I ((i + 1 : Nat) : Int)) (congrArg I (by omega))) rfl rfl rfl ?_
                        refine J.y (op_assign rfl rfl) rfl rfl rfl ?_
                        refine J.nil ?_
                        refine J.then_n ?_
                        exact J.kk (i + 1, a, 0, false) (fun η (hη : _ ∧ (rlo s).length + 1 - η.1 < (rlo s).length + 1 - i) => hI0 η hη.1 hη.2) ⟨⟨by first | exact whyI_let hi (by omega) (by unfold sepr; rw [decide_eq_true_eq]; omega) (by omega) | exact whyI_end hi (by omega) (by simpa using h60) (good_yes (by omega)) | exact whyI_sep hi (by omega) (by unfold sepr; rw [decide_eq_true_eq]; omega) (by simpa using h60) (good_yes (by omega)) (by first | rw [if_pos (by omega)] | rw [if_neg (by omega)]), by dsimp only; omega⟩, by first | omega | (dsimp only; omega)⟩ ⟨rfl, rfl, rfl, rfl, rfl, trivial⟩ (fun _ h => h)
                  ·
                    refine J.no (Wan.is rfl rfl rfl rfl rfl) rfl rfl ?_
                    refine J.no (Wan.is rfl rfl rfl rfl rfl) rfl rfl ?_
                    refine J.yg (Wan.is rfl rfl rfl rfl rfl) (op_pickF rfl rfl rfl) rfl rfl ?_
                    refine J.yg (Wan.is rfl rfl rfl rfl rfl) (op_move rfl rfl) rfl rfl ?_
                    refine J.no (Wan.is rfl rfl rfl rfl rfl) rfl rfl ?_
                    refine J.no (Wan.is rfl rfl rfl rfl rfl) rfl rfl ?_
                    refine J.yg (Wan.is rfl rfl rfl rfl rfl) (op_pickF rfl rfl rfl) rfl rfl ?_
                    refine J.yg (Wan.is rfl rfl rfl rfl rfl) (op_move rfl rfl) rfl rfl ?_
                    refine J.no (Wan.is rfl rfl rfl rfl rfl) rfl rfl ?_
                    refine J.no (Wan.is rfl rfl rfl rfl rfl) rfl rfl ?_
                    refine J.yg (Wan.is rfl rfl rfl rfl rfl) (op_pickF rfl rfl rfl) rfl rfl ?_
                    refine J.y (op_pickF rfl rfl rfl) rfl rfl rfl ?_
                    refine J.nil ?_
                    refine J.then_n (J.k hK90 ?_)
                    refine J.keepE [(3, _), (5, _), (8, _), (75, _)] ⟨rfl, rfl, rfl, rfl, trivial⟩ ?_
                    refine J.condF rfl rfl ?_
                    refine J.skip ?_
                    refine J.then_n (J.k hK89 ?_)
                    refine J.keepE [(3, _), (5, _), (8, _)] ⟨rfl, rfl, rfl, trivial⟩ ?_
                    refine J.seq (fun K108 hK108 => ?_)
                    refine J.seq (fun K109 hK109 => ?_)
                    refine J.region ?_
                    refine J.y (op_move rfl rfl) rfl rfl rfl ?_
                    refine J.y (op_move rfl rfl) rfl rfl rfl ?_
                    refine J.y (op_len Tryd.underlying27 rfl rfl) rfl rfl rfl ?_
                    refine J.y (op_lss rfl rfl rfl) rfl rfl rfl ?_
                    refine J.y (op_move rfl rfl) rfl rfl rfl ?_
                    refine J.split (d := 80) rfl (fun h80 => ?_) (fun h80 => ?_)
                    ·
                      refine J.yg (Wan.is rfl rfl rfl rfl rfl) (op_move rfl rfl) rfl rfl ?_
                      refine J.yg (Wan.is rfl rfl rfl rfl rfl) (op_move rfl rfl) rfl rfl ?_
                      refine J.yg (Wan.is rfl rfl rfl rfl rfl) (op_indexAddr (i := i) rfl rfl rfl Tryd.underlying27 Tryd.sizeOf3 h12.sl (by first | omega | (simp only [List.length_append, List.length_cons, List.length_nil, List.length_take, List.length_drop] at *; omega))) rfl rfl ?_
                      refine J.yg (Wan.is rfl rfl rfl rfl rfl) (op_load rfl rfl Tryd.isAgg3 (m := m12) (by simp) (h12.sl.elem (natsV_get (by first | omega | (simp only [List.length_append, List.length_cons, List.length_nil, List.length_take, List.length_drop] at *; omega))))) rfl rfl ?_
                      refine J.yg (Wan.is rfl rfl rfl rfl rfl) (op_eql rfl rfl rfl) rfl rfl ?_
                      refine J.y (op_pickT rfl rfl rfl) rfl rfl rfl ?_
                      refine J.nil ?_
                      refine J.then_n (J.k hK109 ?_)
                      refine J.keepE [(3, _), (5, _), (8, _), (86, _)] ⟨rfl, rfl, rfl, rfl, trivial⟩ ?_
                      refine J.ite rfl (fun h86 => ?_) (fun h86 => ?_)
                      ·
                        refine J.region ?_
                        refine J.y (op_move rfl rfl) rfl rfl rfl ?_
                        refine J.y ((op_add rfl rfl rfl (by first | omega | (simp only [List.length_append, List.length_cons, List.length_nil, List.length_take, List.length_drop] at *; omega))).as (v' := I ((a + 1 : Nat) : Int)) (congrArg I (by omega))) rfl rfl rfl ?_
                        refine J.y (op_assign rfl rfl) rfl rfl rfl ?_
                        refine J.nil ?_
                        refine J.then_n (J.k hK108 ?_)
                        refine J.keepE [(3, _), (5, _), (8, _)] ⟨rfl, rfl, rfl, trivial⟩ ?_
                        refine J.seq (fun K110 hK110 => ?_)
                        refine J.region ?_
                        refine J.y (op_assign rfl rfl) rfl rfl rfl ?_
                        refine J.y (op_assign rfl rfl) rfl rfl rfl ?_
                        refine J.nil ?_
                        refine J.then_n (J.k hK110 ?_)
                        refine J.keepE [(3, _), (5, _), (6, _), (7, _), (8, _)] ⟨rfl, rfl, rfl, rfl, rfl, trivial⟩ ?_
                        refine J.exit ?_
                        refine J.then_x ?_
                        refine J.blk_eq ?_
                        refine J.then_n (J.k hK14 ?_)
                        refine J.keepE [(3, _), (5, _), (6, _), (7, _), (8, _)] ⟨rfl, rfl, rfl, rfl, rfl, trivial⟩ ?_
                        refine J.region ?_
                        refine J.y (op_move rfl rfl) rfl rfl rfl ?_
                        refine J.y ((op_add rfl rfl rfl (by first | omega | (simp only [List.length_append, List.length_cons, List.length_nil, List.length_take, List.length_drop] at *; omega))).as (v' := I ((i + 1 : Nat) : Int)) (congrArg I (by omega))) rfl rfl rfl ?_
                        refine J.y (op_assign rfl rfl) rfl rfl rfl ?_
                        refine J.nil ?_
                        refine J.then_n ?_
                        exact J.kk (i + 1, a + 1, 0, false) (fun η (hη : _ ∧ (rlo s).length + 1 - η.1 < (rlo s).length + 1 - i) => hI0 η hη.1 hη.2) ⟨⟨by first | exact whyI_let hi (by omega) (by unfold sepr; rw [decide_eq_true_eq]; omega) (by omega) | exact whyI_end hi (by omega) (by simpa using h60) (good_yes (by omega)) | exact whyI_sep hi (by omega) (by unfold sepr; rw [decide_eq_true_eq]; omega) (by simpa using h60) (good_yes (by omega)) (by first | rw [if_pos (by omega)] | rw [if_neg (by omega)]), by dsimp only; omega⟩, by first | omega | (dsimp only; omega)⟩ ⟨rfl, rfl, rfl, rfl, rfl, trivial⟩ (fun _ h => h)
                      ·
                        refine J.skip ?_
                        refine J.then_n (J.k hK108 ?_)
                        refine J.keepE [(3, _), (5, _), (8, _)] ⟨rfl, rfl, rfl, trivial⟩ ?_
                        refine J.seq (fun K111 hK111 => ?_)
                        refine J.region ?_
                        refine J.y (op_assign rfl rfl) rfl rfl rfl ?_
                        refine J.y (op_assign rfl rfl) rfl rfl rfl ?_
                        refine J.nil ?_
                        refine J.then_n (J.k hK111 ?_)
                        refine J.keepE [(3, _), (5, _), (6, _), (7, _), (8, _)] ⟨rfl, rfl, rfl, rfl, rfl, trivial⟩ ?_
                        refine J.exit ?_
                        refine J.then_x ?_
                        refine J.blk_eq ?_
                        refine J.then_n (J.k hK14 ?_)
                        refine J.keepE [(3, _), (5, _), (6, _), (7, _), (8, _)] ⟨rfl, rfl, rfl, rfl, rfl, trivial⟩ ?_
                        refine J.region ?_
                        refine J.y (op_move rfl rfl) rfl rfl rfl ?_
                        refine J.y ((op_add rfl rfl rfl (by first | omega | (simp only [List.length_append, List.length_cons, List.length_nil, List.length_take, List.length_drop] at *; omega))).as (v' := I ((i + 1 : Nat) : Int)) (congrArg I (by omega))) rfl rfl rfl ?_
                        refine J.y (op_assign rfl rfl) rfl rfl rfl ?_
                        refine J.nil ?_
                        refine J.then_n ?_
                        exact J.kk (i + 1, a, 0, false) (fun η (hη : _ ∧ (rlo s).length + 1 - η.1 < (rlo s).length + 1 - i) => hI0 η hη.1 hη.2) ⟨⟨by first | exact whyI_let hi (by omega) (by unfold sepr; rw [decide_eq_true_eq]; omega) (by omega) | exact whyI_end hi (by omega) (by simpa using h60) (good_yes (by omega)) | exact whyI_sep hi (by omega) (by unfold sepr; rw [decide_eq_true_eq]; omega) (by simpa using h60) (good_yes (by omega)) (by first | rw [if_pos (by omega)] | rw [if_neg (by omega)]), by dsimp only; omega⟩, by first | omega | (dsimp only; omega)⟩ ⟨rfl, rfl, rfl, rfl, rfl, trivial⟩ (fun _ h => h)
                    ·
                      refine J.no (Wan.is rfl rfl rfl rfl rfl) rfl rfl ?_
                      refine J.no (Wan.is rfl rfl rfl rfl rfl) rfl rfl ?_
                      refine J.no (Wan.is rfl rfl rfl rfl rfl) rfl rfl ?_
                      refine J.no (Wan.is rfl rfl rfl rfl rfl) rfl rfl ?_
                      refine J.no (Wan.is rfl rfl rfl rfl rfl) rfl rfl ?_
                      refine J.y (op_pickF rfl rfl rfl) rfl rfl rfl ?_
                      refine J.nil ?_
                      refine J.then_n (J.k hK109 ?_)
                      refine J.keepE [(3, _), (5, _), (8, _), (86, _)] ⟨rfl, rfl, rfl, rfl, trivial⟩ ?_
                      refine J.condF rfl rfl ?_
                      refine J.skip ?_
                      refine J.then_n (J.k hK108 ?_)
                      refine J.keepE [(3, _), (5, _), (8, _)] ⟨rfl, rfl, rfl, trivial⟩ ?_
                      refine J.seq (fun K112 hK112 => ?_)
                      refine J.region ?_
                      refine J.y (op_assign rfl rfl) rfl rfl rfl ?_
                      refine J.y (op_assign rfl rfl) rfl rfl rfl ?_
                      refine J.nil ?_
                      refine J.then_n (J.k hK112 ?_)
                      refine J.keepE [(3, _), (5, _), (6, _), (7, _), (8, _)] ⟨rfl, rfl, rfl, rfl, rfl, trivial⟩ ?_
                      refine J.exit ?_
                      refine J.then_x ?_
                      refine J.blk_eq ?_
                      refine J.then_n (J.k hK14 ?_)
                      refine J.keepE [(3, _), (5, _), (6, _), (7, _), (8, _)] ⟨rfl, rfl, rfl, rfl, rfl, trivial⟩ ?_
                      refine J.region ?_
                      refine J.y (op_move rfl rfl) rfl rfl rfl ?_
                      refine J.y ((op_add rfl rfl rfl (by first | omega | (simp only [List.length_append, List.length_cons, List.length_nil, List.length_take, List.length_drop] at *; omega))).as (v' := I ((i + 1 : Nat) : Int)) (congrArg I (by omega))) rfl rfl rfl ?_
                      refine J.y (op_assign rfl rfl) rfl rfl rfl ?_
                      refine J.nil ?_
                      refine J.then_n ?_
                      exact J.kk (i + 1, a, 0, false) (fun η (hη : _ ∧ (rlo s).length + 1 - η.1 < (rlo s).length + 1 - i) => hI0 η hη.1 hη.2) ⟨⟨by first | exact whyI_let hi (by omega) (by unfold sepr; rw [decide_eq_true_eq]; omega) (by omega) | exact whyI_end hi (by omega) (by simpa using h60) (good_yes (by omega)) | exact whyI_sep hi (by omega) (by unfold sepr; rw [decide_eq_true_eq]; omega) (by simpa using h60) (good_yes (by omega)) (by first | rw [if_pos (by omega)] | rw [if_neg (by omega)]), by dsimp only; omega⟩, by first | omega | (dsimp only; omega)⟩ ⟨rfl, rfl, rfl, rfl, rfl, trivial⟩ (fun _ h => h)
              ·
                refine J.yg (Wan.is rfl rfl rfl rfl rfl) (op_move rfl rfl) rfl rfl ?_
                refine J.yg (Wan.is rfl rfl rfl rfl rfl) (op_move rfl rfl) rfl rfl ?_
                refine J.yg (Wan.is rfl rfl rfl rfl rfl) (op_indexAddr (i := i) rfl rfl rfl Tryd.underlying27 Tryd.sizeOf3 h12.sl (by first | omega | (simp only [List.length_append, List.length_cons, List.length_nil, List.length_take, List.length_drop] at *; omega))) rfl rfl ?_
                refine J.yg (Wan.is rfl rfl rfl rfl rfl) (op_load rfl rfl Tryd.isAgg3 (m := m12) (by simp) (h12.sl.elem (natsV_get (by first | omega | (simp only [List.length_append, List.length_cons, List.length_nil, List.length_take, List.length_drop] at *; omega))))) rfl rfl ?_
                refine J.yg (Wan.is rfl rfl rfl rfl rfl) (op_eql rfl rfl rfl) rfl rfl ?_
                refine J.y (op_pickF rfl rfl rfl) rfl rfl rfl ?_
                refine J.nil ?_
                refine J.then_n (J.k hK16 ?_)
                refine J.keepE [(3, _), (5, _), (6, _), (7, _), (8, _), (57, _)] ⟨rfl, rfl, rfl, rfl, rfl, rfl, trivial⟩ ?_
                refine J.ite rfl (fun h57 => ?_) (fun h57 => ?_)
                ·
                  refine J.seq (fun K113 hK113 => ?_)
                  refine J.seq (fun K114 hK114 => ?_)
                  refine J.region ?_
                  refine J.y (op_move rfl rfl) rfl rfl rfl ?_
                  refine J.y (op_not rfl rfl) rfl rfl rfl ?_
                  refine J.y (op_move rfl rfl) rfl rfl rfl ?_
                  refine J.splitB (d := 60) rfl (fun h60 => ?_) (fun h60 => ?_)
                  ·
                    refine J.no (Wan.is rfl rfl rfl rfl rfl) rfl rfl ?_
                    refine J.no (Wan.is rfl rfl rfl rfl rfl) rfl rfl ?_
                    refine J.no (Wan.is rfl rfl rfl rfl rfl) rfl rfl ?_
                    refine J.no (Wan.un rfl rfl rfl rfl) rfl rfl ?_
                    refine J.no (Wan.un rfl rfl rfl rfl) rfl rfl ?_
                    refine J.no (Wan.is rfl rfl rfl rfl rfl) rfl rfl ?_
                    refine J.no (Wan.is rfl rfl rfl rfl rfl) rfl rfl ?_
                    refine J.no (Wan.un rfl rfl rfl rfl) rfl rfl ?_
                    refine J.no (Wan.un rfl rfl rfl rfl) rfl rfl ?_
                    refine J.no (Wan.is rfl rfl rfl rfl rfl) rfl rfl ?_
                    refine J.no (Wan.is rfl rfl rfl rfl rfl) rfl rfl ?_
                    refine J.no (Wan.un rfl rfl rfl rfl) rfl rfl ?_
                    refine J.no (Wan.un rfl rfl rfl rfl) rfl rfl ?_
                    refine J.no (Wan.is rfl rfl rfl rfl rfl) rfl rfl ?_
                    refine J.y (op_pickT rfl rfl rfl) rfl rfl rfl ?_
                    refine J.nil ?_
                    refine J.then_n (J.k hK114 ?_)
                    refine J.keepE [(3, _), (5, _), (8, _), (75, _)] ⟨rfl, rfl, rfl, rfl, trivial⟩ ?_
                    refine J.condT rfl rfl ?_
                    refine J.seq (fun K115 hK115 => ?_)
                    refine J.region ?_
                    refine J.y (op_assign rfl rfl) rfl rfl rfl ?_
                    refine J.nil ?_
                    refine J.then_n (J.k hK115 ?_)
                    refine J.keepE [(2, _)] ⟨rfl, trivial⟩ ?_
                    refine J.ret ?_
                    refine J.then_r ?_
                    refine J.then_r ?_
                    refine J.blk_r ?_
                    refine J.then_r ?_
                    refine J.then_r ?_
                    refine J.blk_r ?_
                    refine J.then_r ?_
                    exact J.done hw0 (fun _ _ h => h) (res1 rfl rfl) (retOk () (by first | (exfalso; omega) | exact why_is5 hwn (whyI_bad hi (by omega) (by first | (left; omega) | (right; exact (by unfold sepr; rw [decide_eq_true_eq]; omega))) (by first | (left; simpa using h60) | (right; exact good_no (by omega)))) | exact why_is5 hwn (whyI_bad2 hi (by omega) (by unfold sepr; rw [decide_eq_true_eq]; omega) (by omega)) | exact why_is5 hwn ((whyI_fin hi (by omega)).trans (decide_eq_false (by omega))) | exact why_is0 hwn ((whyI_fin hi (by omega)).trans (decide_eq_true (by omega)))) trivial [0] rfl (by decide))
                  ·
                    refine J.yg (Wan.is rfl rfl rfl rfl rfl) (op_move rfl rfl) rfl rfl ?_
                    refine J.yg (Wan.is rfl rfl rfl rfl rfl) (op_neq rfl rfl rfl) rfl rfl ?_
                    refine J.yg (Wan.is rfl rfl rfl rfl rfl) (op_move rfl rfl) rfl rfl ?_
                    refine J.split (d := 63) rfl (fun h63 => ?_) (fun h63 => ?_)
                    ·
                      refine J.yg (Wan.is rfl rfl rfl rfl rfl) (op_move rfl rfl) rfl rfl ?_
                      refine J.yg (Wan.is rfl rfl rfl rfl rfl) (op_neq rfl rfl rfl) rfl rfl ?_
                      refine J.yg (Wan.is rfl rfl rfl rfl rfl) (op_pickT rfl rfl rfl) rfl rfl ?_
                      refine J.yg (Wan.is rfl rfl rfl rfl rfl) (op_move rfl rfl) rfl rfl ?_
                      refine J.split (d := 67) rfl (fun h67 => ?_) (fun h67 => ?_)
                      ·
                        refine J.yg (Wan.is rfl rfl rfl rfl rfl) (op_move rfl rfl) rfl rfl ?_
                        refine J.yg (Wan.is rfl rfl rfl rfl rfl) (op_neq rfl rfl rfl) rfl rfl ?_
                        refine J.yg (Wan.is rfl rfl rfl rfl rfl) (op_pickT rfl rfl rfl) rfl rfl ?_
                        refine J.yg (Wan.is rfl rfl rfl rfl rfl) (op_move rfl rfl) rfl rfl ?_
                        refine J.split (d := 71) rfl (fun h71 => ?_) (fun h71 => ?_)
                        ·
                          refine J.yg (Wan.is rfl rfl rfl rfl rfl) (op_move rfl rfl) rfl rfl ?_
                          refine J.yg (Wan.is rfl rfl rfl rfl rfl) (op_neq rfl rfl rfl) rfl rfl ?_
                          refine J.yg (Wan.is rfl rfl rfl rfl rfl) (op_pickT rfl rfl rfl) rfl rfl ?_
                          refine J.y (op_pickF rfl rfl rfl) rfl rfl rfl ?_
                          refine J.nil ?_
                          refine J.then_n (J.k hK114 ?_)
                          refine J.keepE [(3, _), (5, _), (8, _), (75, _)] ⟨rfl, rfl, rfl, rfl, trivial⟩ ?_
                          refine J.ite rfl (fun h75 => ?_) (fun h75 => ?_)
                          ·
                            refine J.seq (fun K116 hK116 => ?_)
                            refine J.region ?_
                            refine J.y (op_assign rfl rfl) rfl rfl rfl ?_
                            refine J.nil ?_
                            refine J.then_n (J.k hK116 ?_)
                            refine J.keepE [(2, _)] ⟨rfl, trivial⟩ ?_
                            refine J.ret ?_
                            refine J.then_r ?_
                            refine J.then_r ?_
                            refine J.blk_r ?_
                            refine J.then_r ?_
                            refine J.then_r ?_
                            refine J.blk_r ?_
                            refine J.then_r ?_
                            exact J.done hw0 (fun _ _ h => h) (res1 rfl rfl) (retOk () (by first | (exfalso; omega) | exact why_is5 hwn (whyI_bad hi (by omega) (by first | (left; omega) | (right; exact (by unfold sepr; rw [decide_eq_true_eq]; omega))) (by first | (left; simpa using h60) | (right; exact good_no (by omega)))) | exact why_is5 hwn (whyI_bad2 hi (by omega) (by unfold sepr; rw [decide_eq_true_eq]; omega) (by omega)) | exact why_is5 hwn ((whyI_fin hi (by omega)).trans (decide_eq_false (by omega))) | exact why_is0 hwn ((whyI_fin hi (by omega)).trans (decide_eq_true (by omega)))) trivial [0] rfl (by decide))
                          ·
                            refine J.skip ?_
                            refine J.then_n (J.k hK113 ?_)
                            refine J.keepE [(3, _), (5, _), (8, _)] ⟨rfl, rfl, rfl, trivial⟩ ?_
                            refine J.seq (fun K117 hK117 => ?_)
                            refine J.seq (fun K118 hK118 => ?_)
                            refine J.region ?_
                            refine J.y (op_move rfl rfl) rfl rfl rfl ?_
                            refine J.y (op_move rfl rfl) rfl rfl rfl ?_
                            refine J.y (op_len Tryd.underlying27 rfl rfl) rfl rfl rfl ?_
                            refine J.y (op_lss rfl rfl rfl) rfl rfl rfl ?_
                            refine J.y (op_move rfl rfl) rfl rfl rfl ?_
                            refine J.split (d := 80) rfl (fun h80 => ?_) (fun h80 => ?_)
                            ·
                              refine J.yg (Wan.is rfl rfl rfl rfl rfl) (op_move rfl rfl) rfl rfl ?_
                              refine J.yg (Wan.is rfl rfl rfl rfl rfl) (op_move rfl rfl) rfl rfl ?_
                              refine J.yg (Wan.is rfl rfl rfl rfl rfl) (op_indexAddr (i := i) rfl rfl rfl Tryd.underlying27 Tryd.sizeOf3 h12.sl (by first | omega | (simp only [List.length_append, List.length_cons, List.length_nil, List.length_take, List.length_drop] at *; omega))) rfl rfl ?_
                              refine J.yg (Wan.is rfl rfl rfl rfl rfl) (op_load rfl rfl Tryd.isAgg3 (m := m12) (by simp) (h12.sl.elem (natsV_get (by first | omega | (simp only [List.length_append, List.length_cons, List.length_nil, List.length_take, List.length_drop] at *; omega))))) rfl rfl ?_
                              refine J.yg (Wan.is rfl rfl rfl rfl rfl) (op_eql rfl rfl rfl) rfl rfl ?_
                              refine J.y (op_pickT rfl rfl rfl) rfl rfl rfl ?_
                              refine J.nil ?_
                              refine J.then_n (J.k hK118 ?_)
                              refine J.keepE [(3, _), (5, _), (8, _), (86, _)] ⟨rfl, rfl, rfl, rfl, trivial⟩ ?_
                              refine J.ite rfl (fun h86 => ?_) (fun h86 => ?_)
                              ·
                                refine J.region ?_
                                refine J.y (op_move rfl rfl) rfl rfl rfl ?_
                                refine J.y ((op_add rfl rfl rfl (by first | omega | (simp only [List.length_append, List.length_cons, List.length_nil, List.length_take, List.length_drop] at *; omega))).as (v' := I ((a + 1 : Nat) : Int)) (congrArg I (by omega))) rfl rfl rfl ?_
                                refine J.y (op_assign rfl rfl) rfl rfl rfl ?_
                                refine J.nil ?_
                                refine J.then_n (J.k hK117 ?_)
                                refine J.keepE [(3, _), (5, _), (8, _)] ⟨rfl, rfl, rfl, trivial⟩ ?_
                                refine J.seq (fun K119 hK119 => ?_)
                                refine J.region ?_
                                refine J.y (op_assign rfl rfl) rfl rfl rfl ?_
                                refine J.y (op_assign rfl rfl) rfl rfl rfl ?_
                                refine J.nil ?_
                                refine J.then_n (J.k hK119 ?_)
                                refine J.keepE [(3, _), (5, _), (6, _), (7, _), (8, _)] ⟨rfl, rfl, rfl, rfl, rfl, trivial⟩ ?_
                                refine J.exit ?_
                                refine J.then_x ?_
                                refine J.blk_eq ?_
                                refine J.then_n (J.k hK14 ?_)
                                refine J.keepE [(3, _), (5, _), (6, _), (7, _), (8, _)] ⟨rfl, rfl, rfl, rfl, rfl, trivial⟩ ?_
                                refine J.region ?_
                                refine J.y (op_move rfl rfl) rfl rfl rfl ?_
                                refine J.y ((op_add rfl rfl rfl (by first | omega | (simp only [List.length_append, List.length_cons, List.length_nil, List.length_take, List.length_drop] at *; omega))).as (v' := I ((i + 1 : Nat) : Int)) (congrArg I (by omega))) rfl rfl rfl ?_
                                refine J.y (op_assign rfl rfl) rfl rfl rfl ?_
                                refine J.nil ?_
                                refine J.then_n ?_
                                exact J.kk (i + 1, a + 1, 0, false) (fun η (hη : _ ∧ (rlo s).length + 1 - η.1 < (rlo s).length + 1 - i) => hI0 η hη.1 hη.2) ⟨⟨by first | exact whyI_let hi (by omega) (by unfold sepr; rw [decide_eq_true_eq]; omega) (by omega) | exact whyI_end hi (by omega) (by simpa using h60) (good_yes (by omega)) | exact whyI_sep hi (by omega) (by unfold sepr; rw [decide_eq_true_eq]; omega) (by simpa using h60) (good_yes (by omega)) (by first | rw [if_pos (by omega)] | rw [if_neg (by omega)]), by dsimp only; omega⟩, by first | omega | (dsimp only; omega)⟩ ⟨rfl, rfl, rfl, rfl, rfl, trivial⟩ (fun _ h => h)
                              ·
                                refine J.skip ?_
                                refine J.then_n (J.k hK117 ?_)
                                refine J.keepE [(3, _), (5, _), (8, _)] ⟨rfl, rfl, rfl, trivial⟩ ?_
                                refine J.seq (fun K120 hK120 => ?_)
                                refine J.region ?_
                                refine J.y (op_assign rfl rfl) rfl rfl rfl ?_
                                refine J.y (op_assign rfl rfl) rfl rfl rfl ?_
                                refine J.nil ?_
                                refine J.then_n (J.k hK120 ?_)
                                refine J.keepE [(3, _), (5, _), (6, _), (7, _), (8, _)] ⟨rfl, rfl, rfl, rfl, rfl, trivial⟩ ?_
                                refine J.exit ?_
                                refine J.then_x ?_
                                refine J.blk_eq ?_
                                refine J.then_n (J.k hK14 ?_)
                                refine J.keepE [(3, _), (5, _), (6, _), (7, _), (8, _)] ⟨rfl, rfl, rfl, rfl, rfl, trivial⟩ ?_
                                refine J.region ?_
                                refine J.y (op_move rfl rfl) rfl rfl rfl ?_
                                refine J.y ((op_add rfl rfl rfl (by first | omega | (simp only [List.length_append, List.length_cons, List.length_nil, List.length_take, List.length_drop] at *; omega))).as (v' := I ((i + 1 : Nat) : Int)) (congrArg I (by omega))) rfl rfl rfl ?_
                                refine J.y (op_assign rfl rfl) rfl rfl rfl ?_
                                refine J.nil ?_
                                refine J.then_n ?_
                                exact J.kk (i + 1, a, 0, false) (fun η (hη : _ ∧ (rlo s).length + 1 - η.1 < (rlo s).length + 1 - i) => hI0 η hη.1 hη.2) ⟨⟨by first | exact whyI_let hi (by omega) (by unfold sepr; rw [decide_eq_true_eq]; omega) (by omega) | exact whyI_end hi (by omega) (by simpa using h60) (good_yes (by omega)) | exact whyI_sep hi (by omega) (by unfold sepr; rw [decide_eq_true_eq]; omega) (by simpa using h60) (good_yes (by omega)) (by first | rw [if_pos (by omega)] | rw [if_neg (by omega)]), by dsimp only; omega⟩, by first | omega | (dsimp only; omega)⟩ ⟨rfl, rfl, rfl, rfl, rfl, trivial⟩ (fun _ h => h)
                            ·
                              refine J.no (Wan.is rfl rfl rfl rfl rfl) rfl rfl ?_
                              refine J.no (Wan.is rfl rfl rfl rfl rfl) rfl rfl ?_
                              refine J.no (Wan.is rfl rfl rfl rfl rfl) rfl rfl ?_
                              refine J.no (Wan.is rfl rfl rfl rfl rfl) rfl rfl ?_
                              refine J.no (Wan.is rfl rfl rfl rfl rfl) rfl rfl ?_
                              refine J.y (op_pickF rfl rfl rfl) rfl rfl rfl ?_
                              refine J.nil ?_
                              refine J.then_n (J.k hK118 ?_)
                              refine J.keepE [(3, _), (5, _), (8, _), (86, _)] ⟨rfl, rfl, rfl, rfl, trivial⟩ ?_
                              refine J.condF rfl rfl ?_
                              refine J.skip ?_
                              refine J.then_n (J.k hK117 ?_)
                              refine J.keepE [(3, _), (5, _), (8, _)] ⟨rfl, rfl, rfl, trivial⟩ ?_
                              refine J.seq (fun K121 hK121 => ?_)
                              refine J.region ?_
                              refine J.y (op_assign rfl rfl) rfl rfl rfl ?_
                              refine J.y (op_assign rfl rfl) rfl rfl rfl ?_
                              refine J.nil ?_
                              refine J.then_n (J.k hK121 ?_)
                              refine J.keepE [(3, _), (5, _), (6, _), (7, _), (8, _)] ⟨rfl, rfl, rfl, rfl, rfl, trivial⟩ ?_
                              refine J.exit ?_
                              refine J.then_x ?_
                              refine J.blk_eq ?_
                              refine J.then_n (J.k hK14 ?_)
                              refine J.keepE [(3, _), (5, _), (6, _), (7, _), (8, _)] ⟨rfl, rfl, rfl, rfl, rfl, trivial⟩ ?_
                              refine J.region ?_
                              refine J.y (op_move rfl rfl) rfl rfl rfl ?_
                              refine J.y ((op_add rfl rfl rfl (by first | omega | (simp only [List.length_append, List.length_cons, List.length_nil, List.length_take, List.length_drop] at *; omega))).as (v' := I ((i + 1 : Nat) : Int)) (congrArg I (by omega))) rfl rfl rfl ?_
                              refine J.y (op_assign rfl rfl) rfl rfl rfl ?_
                              refine J.nil ?_
                              refine J.then_n ?_
                              exact J.kk (i + 1, a, 0, false) (fun η (hη : _ ∧ (rlo s).length + 1 - η.1 < (rlo s).length + 1 - i) => hI0 η hη.1 hη.2) ⟨⟨by first | exact whyI_let hi (by omega) (by unfold sepr; rw [decide_eq_true_eq]; omega) (by omega) | exact whyI_end hi (by omega) (by simpa using h60) (good_yes (by omega)) | exact whyI_sep hi (by omega) (by unfold sepr; rw [decide_eq_true_eq]; omega) (by simpa using h60) (good_yes (by omega)) (by first | rw [if_pos (by omega)] | rw [if_neg (by omega)]), by dsimp only; omega⟩, by first | omega | (dsimp only; omega)⟩ ⟨rfl, rfl, rfl, rfl, rfl, trivial⟩ (fun _ h => h)
                        ·
                          refine J.no (Wan.is rfl rfl rfl rfl rfl) rfl rfl ?_
                          refine J.no (Wan.is rfl rfl rfl rfl rfl) rfl rfl ?_
                          refine J.yg (Wan.is rfl rfl rfl rfl rfl) (op_pickF rfl rfl rfl) rfl rfl ?_
                          refine J.y (op_pickF rfl rfl rfl) rfl rfl rfl ?_
                          refine J.nil ?_
                          refine J.then_n (J.k hK114 ?_)
                          refine J.keepE [(3, _), (5, _), (8, _), (75, _)] ⟨rfl, rfl, rfl, rfl, trivial⟩ ?_
                          refine J.condF rfl rfl ?_
                          refine J.skip ?_
                          refine J.then_n (J.k hK113 ?_)
                          refine J.keepE [(3, _), (5, _), (8, _)] ⟨rfl, rfl, rfl, trivial⟩ ?_
                          refine J.seq (fun K122 hK122 => ?_)
                          refine J.seq (fun K123 hK123 => ?_)
                          refine J.region ?_
                          refine J.y (op_move rfl rfl) rfl rfl rfl ?_
                          refine J.y (op_move rfl rfl) rfl rfl rfl ?_
                          refine J.y (op_len Tryd.underlying27 rfl rfl) rfl rfl rfl ?_
                          refine J.y (op_lss rfl rfl rfl) rfl rfl rfl ?_
                          refine J.y (op_move rfl rfl) rfl rfl rfl ?_
                          refine J.split (d := 80) rfl (fun h80 => ?_) (fun h80 => ?_)
                          ·
                            refine J.yg (Wan.is rfl rfl rfl rfl rfl) (op_move rfl rfl) rfl rfl ?_
                            refine J.yg (Wan.is rfl rfl rfl rfl rfl) (op_move rfl rfl) rfl rfl ?_
                            refine J.yg (Wan.is rfl rfl rfl rfl rfl) (op_indexAddr (i := i) rfl rfl rfl Tryd.underlying27 Tryd.sizeOf3 h12.sl (by first | omega | (simp only [List.length_append, List.length_cons, List.length_nil, List.length_take, List.length_drop] at *; omega))) rfl rfl ?_
                            refine J.yg (Wan.is rfl rfl rfl rfl rfl) (op_load rfl rfl Tryd.isAgg3 (m := m12) (by simp) (h12.sl.elem (natsV_get (by first | omega | (simp only [List.length_append, List.length_cons, List.length_nil, List.length_take, List.length_drop] at *; omega))))) rfl rfl ?_
                            refine J.yg (Wan.is rfl rfl rfl rfl rfl) (op_eql rfl rfl rfl) rfl rfl ?_
                            refine J.y (op_pickT rfl rfl rfl) rfl rfl rfl ?_
                            refine J.nil ?_
                            refine J.then_n (J.k hK123 ?_)
                            refine J.keepE [(3, _), (5, _), (8, _), (86, _)] ⟨rfl, rfl, rfl, rfl, trivial⟩ ?_
                            refine J.ite rfl (fun h86 => ?_) (fun h86 => ?_)
                            ·
                              refine J.region ?_
                              refine J.y (op_move rfl rfl) rfl rfl rfl ?_
                              refine J.y ((op_add rfl rfl rfl (by first | omega | (simp only [List.length_append, List.length_cons, List.length_nil, List.length_take, List.length_drop] at *; omega))).as (v' := I ((a + 1 : Nat) : Int)) (congrArg I (by omega))) rfl rfl rfl ?_
                              refine J.y (op_assign rfl rfl) rfl rfl rfl ?_
                              refine J.nil ?_
                              refine J.then_n (J.k hK122 ?_)
                              refine J.keepE [(3, _), (5, _), (8, _)] ⟨rfl, rfl, rfl, trivial⟩ ?_
                              refine J.seq (fun K124 hK124 => ?_)
                              refine J.region ?_
                              refine J.y (op_assign rfl rfl) rfl rfl rfl ?_
                              refine J.y (op_assign rfl rfl) rfl rfl rfl ?_
                              refine J.nil ?_
                              refine J.then_n (J.k hK124 ?_)
                              refine J.keepE [(3, _), (5, _), (6, _), (7, _), (8, _)] ⟨rfl, rfl, rfl, rfl, rfl, trivial⟩ ?_
                              refine J.exit ?_
                              refine J.then_x ?_
                              refine J.blk_eq ?_
                              refine J.then_n (J.k hK14 ?_)
                              refine J.keepE [(3, _), (5, _), (6, _), (7, _), (8, _)] ⟨rfl, rfl, rfl, rfl, rfl, trivial⟩ ?_
                              refine J.region ?_
                              refine J.y (op_move rfl rfl) rfl rfl rfl ?_
                              refine J.y ((op_add rfl rfl rfl (by first | omega | (simp only [List.length_append, List.length_cons, List.length_nil, List.length_take, List.length_drop] at *; omega))).as (v' := I ((i + 1 : Nat) : Int)) (congrArg I (by omega))) rfl rfl rfl ?_
                              refine J.y (op_assign rfl rfl) rfl rfl rfl ?_
                              refine J.nil ?_
                              refine J.then_n ?_
                              exact J.kk (i + 1, a + 1, 0, false) (fun η (hη : _ ∧ (rlo s).length + 1 - η.1 < (rlo s).length + 1 - i) => hI0 η hη.1 hη.2) ⟨⟨by first | exact whyI_let hi (by omega) (by unfold sepr; rw [decide_eq_true_eq]; omega) (by omega) | exact whyI_end hi (by omega) (by simpa using h60) (good_yes (by omega)) | exact whyI_sep hi (by omega) (by unfold sepr; rw [decide_eq_true_eq]; omega) (by simpa using h60) (good_yes (by omega)) (by first | rw [if_pos (by omega)] | rw [if_neg (by omega)]), by dsimp only; omega⟩, by first | omega | (dsimp only; omega)⟩ ⟨rfl, rfl, rfl, rfl, rfl, trivial⟩ (fun _ h => h)
                            ·
                              refine J.skip ?_
                              refine J.then_n (J.k hK122 ?_)
                              refine J.keepE [(3, _), (5, _), (8, _)] ⟨rfl, rfl, rfl, trivial⟩ ?_
                              refine J.seq (fun K125 hK125 => ?_)
                              refine J.region ?_
                              refine J.y (op_assign rfl rfl) rfl rfl rfl ?_
                              refine J.y (op_assign rfl rfl) rfl rfl rfl ?_
                              refine J.nil ?_
                              refine J.then_n (J.k hK125 ?_)
                              refine J.keepE [(3, _), (5, _), (6, _), (7, _), (8, _)] ⟨rfl, rfl, rfl, rfl, rfl, trivial⟩ ?_
                              refine J.exit ?_
                              refine J.then_x ?_
                              refine J.blk_eq ?_
                              refine J.then_n (J.k hK14 ?_)
                              refine J.keepE [(3, _), (5, _), (6, _), (7, _), (8, _)] ⟨rfl, rfl, rfl, rfl, rfl, trivial⟩ ?_
                              refine J.region ?_
                              refine J.y (op_move rfl rfl) rfl rfl rfl ?_
                              refine J.y ((op_add rfl rfl rfl (by first | omega | (simp only [List.length_append, List.length_cons, List.length_nil, List.length_take, List.length_drop] at *; omega))).as (v' := I ((i + 1 : Nat) : Int)) (congrArg I (by omega))) rfl rfl rfl ?_
                              refine J.y (op_assign rfl rfl) rfl rfl rfl ?_
                              refine J.nil ?_
                              refine J.then_n ?_
                              exact J.kk (i + 1, a, 0, false) (fun η (hη : _ ∧ (rlo s).length + 1 - η.1 < (rlo s).length + 1 - i) => hI0 η hη.1 hη.2) ⟨⟨by first | exact whyI_let hi (by omega) (by unfold sepr; rw [decide_eq_true_eq]; omega) (by omega) | exact whyI_end hi (by omega) (by simpa using h60) (good_yes (by omega)) | exact whyI_sep hi (by omega) (by unfold sepr; rw [decide_eq_true_eq]; omega) (by simpa using h60) (good_yes (by omega)) (by first | rw [if_pos (by omega)] | rw [if_neg (by omega)]), by dsimp only; omega⟩, by first | omega | (dsimp only; omega)⟩ ⟨rfl, rfl, rfl, rfl, rfl, trivial⟩ (fun _ h => h)
                          ·
                            refine J.no (Wan.is rfl rfl rfl rfl rfl) rfl rfl ?_
                            refine J.no (Wan.is rfl rfl rfl rfl rfl) rfl rfl ?_
                            refine J.no (Wan.is rfl rfl rfl rfl rfl) rfl rfl ?_
                            refine J.no (Wan.is rfl rfl rfl rfl rfl) rfl rfl ?_
                            refine J.no (Wan.is rfl rfl rfl rfl rfl) rfl rfl ?_
                            refine J.y (op_pickF rfl rfl rfl) rfl rfl rfl ?_
                            refine J.nil ?_
                            refine J.then_n (J.k hK123 ?_)
                            refine J.keepE [(3, _), (5, _), (8, _), (86, _)] ⟨rfl, rfl, rfl, rfl, trivial⟩ ?_
                            refine J.condF rfl rfl ?_
                            refine J.skip ?_
                            refine J.then_n (J.k hK122 ?_)
                            refine J.keepE [(3, _), (5, _), (8, _)] ⟨rfl, rfl, rfl, trivial⟩ ?_
                            refine J.seq (fun K126 hK126 => ?_)
                            refine J.region ?_
                            refine J.y (op_assign rfl rfl) rfl rfl rfl ?_
                            refine J.y (op_assign rfl rfl) rfl rfl rfl ?_
                            refine J.nil ?_
                            refine J.then_n (J.k hK126 ?_)
                            refine J.keepE [(3, _), (5, _), (6, _), (7, _), (8, _)] ⟨rfl, rfl, rfl, rfl, rfl, trivial⟩ ?_
                            refine J.exit ?_
                            refine J.then_x ?_
                            refine J.blk_eq ?_
                            refine J.then_n (J.k hK14 ?_)
                            refine J.keepE [(3, _), (5, _), (6, _), (7, _), (8, _)] ⟨rfl, rfl, rfl, rfl, rfl, trivial⟩ ?_
                            refine J.region ?_
                            refine J.y (op_move rfl rfl) rfl rfl rfl ?_
                            refine J.y ((op_add rfl rfl rfl (by first | omega | (simp only [List.length_append, List.length_cons, List.length_nil, List.length_take, List.length_drop] at *; omega))).as (v' := I ((i + 1 : Nat) : Int)) (congrArg I (by omega))) rfl rfl rfl ?_
                            refine J.y (op_assign rfl rfl) rfl rfl rfl ?_
                            refine J.nil ?_
                            refine J.then_n ?_
                            exact J.kk (i + 1, a, 0, false) (fun η (hη : _ ∧ (rlo s).length + 1 - η.1 < (rlo s).length + 1 - i) => hI0 η hη.1 hη.2) ⟨⟨by first | exact whyI_let hi (by omega) (by unfold sepr; rw [decide_eq_true_eq]; omega) (by omega) | exact whyI_end hi (by omega) (by simpa using h60) (good_yes (by omega)) | exact whyI_sep hi (by omega) (by unfold sepr; rw [decide_eq_true_eq]; omega) (by simpa using h60) (good_yes (by omega)) (by first | rw [if_pos (by omega)] | rw [if_neg (by omega)]), by dsimp only; omega⟩, by first | omega | (dsimp only; omega)⟩ ⟨rfl, rfl, rfl, rfl, rfl, trivial⟩ (fun _ h => h)
                      ·
                        refine J.no (Wan.is rfl rfl rfl rfl rfl) rfl rfl ?_
                        refine J.no (Wan.is rfl rfl rfl rfl rfl) rfl rfl ?_
                        refine J.yg (Wan.is rfl rfl rfl rfl rfl) (op_pickF rfl rfl rfl) rfl rfl ?_
                        refine J.yg (Wan.is rfl rfl rfl rfl rfl) (op_move rfl rfl) rfl rfl ?_
                        refine J.no (Wan.is rfl rfl rfl rfl rfl) rfl rfl ?_
                        refine J.no (Wan.is rfl rfl rfl rfl rfl) rfl rfl ?_
                        refine J.yg (Wan.is rfl rfl rfl rfl rfl) (op_pickF rfl rfl rfl) rfl rfl ?_
                        refine J.y (op_pickF rfl rfl rfl) rfl rfl rfl ?_
                        refine J.nil ?_
                        refine J.then_n (J.k hK114 ?_)
                        refine J.keepE [(3, _), (5, _), (8, _), (75, _)] ⟨rfl, rfl, rfl, rfl, trivial⟩ ?_
                        refine J.condF rfl rfl ?_
                        refine J.skip ?_
                        refine J.then_n (J.k hK113 ?_)
                        refine J.keepE [(3, _), (5, _), (8, _)] ⟨rfl, rfl, rfl, trivial⟩ ?_
                        refine J.seq (fun K127 hK127 => ?_)
                        refine J.seq (fun K128 hK128 => ?_)
                        refine J.region ?_
                        refine J.y (op_move rfl rfl) rfl rfl rfl ?_
                        refine J.y (op_move rfl rfl) rfl rfl rfl ?_
                        refine J.y (op_len Tryd.underlying27 rfl rfl) rfl rfl rfl ?_
                        refine J.y (op_lss rfl rfl rfl) rfl rfl rfl ?_
                        refine J.y (op_move rfl rfl) rfl rfl rfl ?_
                        refine J.split (d := 80) rfl (fun h80 => ?_) (fun h80 => ?_)
                        ·
                          refine J.yg (Wan.is rfl rfl rfl rfl rfl) (op_move rfl rfl) rfl rfl ?_
                          refine J.yg (Wan.is rfl rfl rfl rfl rfl) (op_move rfl rfl) rfl rfl ?_
                          refine J.yg (Wan.is rfl rfl rfl rfl rfl) (op_indexAddr (i := i) rfl rfl rfl Tryd.underlying27 Tryd.sizeOf3 h12.sl (by first | omega | (simp only [List.length_append, List.length_cons, List.length_nil, List.length_take, List.length_drop] at *; omega))) rfl rfl ?_
                          refine J.yg (Wan.is rfl rfl rfl rfl rfl) (op_load rfl rfl Tryd.isAgg3 (m := m12) (by simp) (h12.sl.elem (natsV_get (by first | omega | (simp only [List.length_append, List.length_cons, List.length_nil, List.length_take, List.length_drop] at *; omega))))) rfl rfl ?_
                          refine J.yg (Wan.is rfl rfl rfl rfl rfl) (op_eql rfl rfl rfl) rfl rfl ?_
                          refine J.y (op_pickT rfl rfl rfl) rfl rfl rfl ?_
                          refine J.nil ?_
                          refine J.then_n (J.k hK128 ?_)
                          refine J.keepE [(3, _), (5, _), (8, _), (86, _)] ⟨rfl, rfl, rfl, rfl, trivial⟩ ?_
                          refine J.ite rfl (fun h86 => ?_) (fun h86 => ?_)
                          ·
                            refine J.region ?_
                            refine J.y (op_move rfl rfl) rfl rfl rfl ?_
                            refine J.y ((op_add rfl rfl rfl (by first | omega | (simp only [List.length_append, List.length_cons, List.length_nil, List.length_take, List.length_drop] at *; omega))).as (v' := I ((a + 1 : Nat) : Int)) (congrArg I (by omega))) rfl rfl rfl ?_
                            refine J.y (op_assign rfl rfl) rfl rfl rfl ?_
                            refine J.nil ?_
                            refine J.then_n (J.k hK127 ?_)
                            refine J.keepE [(3, _), (5, _), (8, _)] ⟨rfl, rfl, rfl, trivial⟩ ?_
                            refine J.seq (fun K129 hK129 => ?_)
                            refine J.region ?_
                            refine J.y (op_assign rfl rfl) rfl rfl rfl ?_
                            refine J.y (op_assign rfl rfl) rfl rfl rfl ?_
                            refine J.nil ?_
                            refine J.then_n (J.k hK129 ?_)
                            refine J.keepE [(3, _), (5, _), (6, _), (7, _), (8, _)] ⟨rfl, rfl, rfl, rfl, rfl, trivial⟩ ?_
                            refine J.exit ?_
                            refine J.then_x ?_
                            refine J.blk_eq ?_
                            refine J.then_n (J.k hK14 ?_)
                            refine J.keepE [(3, _), (5, _), (6, _), (7, _), (8, _)] ⟨rfl, rfl, rfl, rfl, rfl, trivial⟩ ?_
                            refine J.region ?_
                            refine J.y (op_move rfl rfl) rfl rfl rfl ?_
                            refine J.y ((op_add rfl rfl rfl (by first | omega | (simp only [List.length_append, List.length_cons, List.length_nil, List.length_take, List.length_drop] at *; omega))).as (v' := I ((i + 1 : Nat) : Int)) (congrArg I (by omega))) rfl rfl rfl ?_
                            refine J.y (op_assign rfl rfl) rfl rfl rfl ?_
                            refine J.nil ?_
                            refine J.then_n ?_
                            exact J.kk (i + 1, a + 1, 0, false) (fun η (hη : _ ∧ (rlo s).length + 1 - η.1 < (rlo s).length + 1 - i) => hI0 η hη.1 hη.2) ⟨⟨by first | exact whyI_let hi (by omega) (by unfold sepr; rw [decide_eq_true_eq]; omega) (by omega) | exact whyI_end hi (by omega) (by simpa using h60) (good_yes (by omega)) | exact whyI_sep hi (by omega) (by unfold sepr; rw [decide_eq_true_eq]; omega) (by simpa using h60) (good_yes (by omega)) (by first | rw [if_pos (by omega)] | rw [if_neg (by omega)]), by dsimp only; omega⟩, by first | omega | (dsimp only; omega)⟩ ⟨rfl, rfl, rfl, rfl, rfl, trivial⟩ (fun _ h => h)
                          ·
                            refine J.skip ?_
                            refine J.then_n (J.k hK127 ?_)
                            refine J.keepE [(3, _), (5, _), (8, _)] ⟨rfl, rfl, rfl, trivial⟩ ?_
                            refine J.seq (fun K130 hK130 => ?_)
                            refine J.region ?_
                            refine J.y (op_assign rfl rfl) rfl rfl rfl ?_
                            refine J.y (op_assign rfl rfl) rfl rfl rfl ?_
                            refine J.nil ?_
                            refine J.then_n (J.k hK130 ?_)
                            refine J.keepE [(3, _), (5, _), (6, _), (7, _), (8, _)] ⟨rfl, rfl, rfl, rfl, rfl, trivial⟩ ?_
                            refine J.exit ?_
                            refine J.then_x ?_
                            refine J.blk_eq ?_
                            refine J.then_n (J.k hK14 ?_)
                            refine J.keepE [(3, _), (5, _), (6, _), (7, _), (8, _)] ⟨rfl, rfl, rfl, rfl, rfl, trivial⟩ ?_
                            refine J.region ?_
                            refine J.y (op_move rfl rfl) rfl rfl rfl ?_
                            refine J.y ((op_add rfl rfl rfl (by first | omega | (simp only [List.length_append, List.length_cons, List.length_nil, List.length_take, List.length_drop] at *; omega))).as (v' := I ((i + 1 : Nat) : Int)) (congrArg I (by omega))) rfl rfl rfl ?_
                            refine J.y (op_assign rfl rfl) rfl rfl rfl ?_
                            refine J.nil ?_
                            refine J.then_n ?_
                            exact J.kk (i + 1, a, 0, false) (fun η (hη : _ ∧ (rlo s).length + 1 - η.1 < (rlo s).length + 1 - i) => hI0 η hη.1 hη.2) ⟨⟨by first | exact whyI_let hi (by omega) (by unfold sepr; rw [decide_eq_true_eq]; omega) (by omega) | exact whyI_end hi (by omega) (by simpa using h60) (good_yes (by omega)) | exact whyI_sep hi (by omega) (by unfold sepr; rw [decide_eq_true_eq]; omega) (by simpa using h60) (good_yes (by omega)) (by first | rw [if_pos (by omega)] | rw [if_neg (by omega)]), by dsimp only; omega⟩, by first | omega | (dsimp only; omega)⟩ ⟨rfl, rfl, rfl, rfl, rfl, trivial⟩ (fun _ h => h)
                        ·
                          refine J.no (Wan.is rfl rfl rfl rfl rfl) rfl rfl ?_
                          refine J.no (Wan.is rfl rfl rfl rfl rfl) rfl rfl ?_
                          refine J.no (Wan.is rfl rfl rfl rfl rfl) rfl rfl ?_
                          refine J.no (Wan.is rfl rfl rfl rfl rfl) rfl rfl ?_
                          refine J.no (Wan.is rfl rfl rfl rfl rfl) rfl rfl ?_
                          refine J.y (op_pickF rfl rfl rfl) rfl rfl rfl ?_
                          refine J.nil ?_
                          refine J.then_n (J.k hK128 ?_)
                          refine J.keepE [(3, _), (5, _), (8, _), (86, _)] ⟨rfl, rfl, rfl, rfl, trivial⟩ ?_
                          refine J.condF rfl rfl ?_
                          refine J.skip ?_
                          refine J.then_n (J.k hK127 ?_)
                          refine J.keepE [(3, _), (5, _), (8, _)] ⟨rfl, rfl, rfl, trivial⟩ ?_
                          refine J.seq (fun K131 hK131 => ?_)
                          refine J.region ?_
                          refine J.y (op_assign rfl rfl) rfl rfl rfl ?_
                          refine J.y (op_assign rfl rfl) rfl rfl rfl ?_
                          refine J.nil ?_
                          refine J.then_n (J.k hK131 ?_)
                          refine J.keepE [(3, _), (5, _), (6, _), (7, _), (8, _)] ⟨rfl, rfl, rfl, rfl, rfl, trivial⟩ ?_
                          refine J.exit ?_
                          refine J.then_x ?_
                          refine J.blk_eq ?_
                          refine J.then_n (J.k hK14 ?_)
                          refine J.keepE [(3, _), (5, _), (6, _), (7, _), (8, _)] ⟨rfl, rfl, rfl, rfl, rfl, trivial⟩ ?_
                          refine J.region ?_
                          refine J.y (op_move rfl rfl) rfl rfl rfl ?_
                          refine J.y ((op_add rfl rfl rfl (by first | omega | (simp only [List.length_append, List.length_cons, List.length_nil, List.length_take, List.length_drop] at *; omega))).as (v' := I ((i + 1 : Nat) : Int)) (congrArg I (by omega))) rfl rfl rfl ?_
                          refine J.y (op_assign rfl rfl) rfl rfl rfl ?_
                          refine J.nil ?_
                          refine J.then_n ?_
                          exact J.kk (i + 1, a, 0, false) (fun η (hη : _ ∧ (rlo s).length + 1 - η.1 < (rlo s).length + 1 - i) => hI0 η hη.1 hη.2) ⟨⟨by first | exact whyI_let hi (by omega) (by unfold sepr; rw [decide_eq_true_eq]; omega) (by omega) | exact whyI_end hi (by omega) (by simpa using h60) (good_yes (by omega)) | exact whyI_sep hi (by omega) (by unfold sepr; rw [decide_eq_true_eq]; omega) (by simpa using h60) (good_yes (by omega)) (by first | rw [if_pos (by omega)] | rw [if_neg (by omega)]), by dsimp only; omega⟩, by first | omega | (dsimp only; omega)⟩ ⟨rfl, rfl, rfl, rfl, rfl, trivial⟩ (fun _ h => h)
                    ·
                      refine J.no (Wan.is rfl rfl rfl rfl rfl) rfl rfl ?_
                      refine J.no (Wan.is rfl rfl rfl rfl rfl) rfl rfl ?_
                      refine J.yg (Wan.is rfl rfl rfl rfl rfl) (op_pickF rfl rfl rfl) rfl rfl ?_
                      refine J.yg (Wan.is rfl rfl rfl rfl rfl) (op_move rfl rfl) rfl rfl ?_
                      refine J.no (Wan.is rfl rfl rfl rfl rfl) rfl rfl ?_
                      refine J.no (Wan.is rfl rfl rfl rfl rfl) rfl rfl ?_
                      refine J.yg (Wan.is rfl rfl rfl rfl rfl) (op_pickF rfl rfl rfl) rfl rfl ?_
                      refine J.yg (Wan.is rfl rfl rfl rfl rfl) (op_move rfl rfl) rfl rfl ?_
                      refine J.no (Wan.is rfl rfl rfl rfl rfl) rfl rfl ?_
                      refine J.no (Wan.is rfl rfl rfl rfl rfl) rfl rfl ?_
                      refine J.yg (Wan.is rfl rfl rfl rfl rfl) (op_pickF rfl rfl rfl) rfl rfl ?_
                      refine J.y (op_pickF rfl rfl rfl) rfl rfl rfl ?_
                      refine J.nil ?_
                      refine J.then_n (J.k hK114 ?_)
                      refine J.keepE [(3, _), (5, _), (8, _), (75, _)] ⟨rfl, rfl, rfl, rfl, trivial⟩ ?_
                      refine J.condF rfl rfl ?_
                      refine J.skip ?_
                      refine J.then_n (J.k hK113 ?_)
                      refine J.keepE [(3, _), (5, _), (8, _)] ⟨rfl, rfl, rfl, trivial⟩ ?_
                      refine J.seq (fun K132 hK132 => ?_)
                      refine J.seq (fun K133 hK133 => ?_)
                      refine J.region ?_
                      refine J.y (op_move rfl rfl) rfl rfl rfl ?_
                      refine J.y (op_move rfl rfl) rfl rfl rfl ?_
                      refine J.y (op_len Tryd.underlying27 rfl rfl) rfl rfl rfl ?_
                      refine J.y (op_lss rfl rfl rfl) rfl rfl rfl ?_
                      refine J.y (op_move rfl rfl) rfl rfl rfl ?_
                      refine J.split (d := 80) rfl (fun h80 => ?_) (fun h80 => ?_)
                      ·
                        refine J.yg (Wan.is rfl rfl rfl rfl rfl) (op_move rfl rfl) rfl rfl ?_
                        refine J.yg (Wan.is rfl rfl rfl rfl rfl) (op_move rfl rfl) rfl rfl ?_
                        refine J.yg (Wan.is rfl rfl rfl rfl rfl) (op_indexAddr (i := i) rfl rfl rfl Tryd.underlying27 Tryd.sizeOf3 h12.sl (by first | omega | (simp only [List.length_append, List.length_cons, List.length_nil, List.length_take, List.length_drop] at *; omega))) rfl rfl ?_
                        refine J.yg (Wan.is rfl rfl rfl rfl rfl) (op_load rfl rfl Tryd.isAgg3 (m := m12) (by simp) (h12.sl.elem (natsV_get (by first | omega | (simp only [List.length_append, List.length_cons, List.length_nil, List.length_take, List.length_drop] at *; omega))))) rfl rfl ?_
                        refine J.yg (Wan.is rfl rfl rfl rfl rfl) (op_eql rfl rfl rfl) rfl rfl ?_
                        refine J.y (op_pickT rfl rfl rfl) rfl rfl rfl ?_
                        refine J.nil ?_
                        refine J.then_n (J.k hK133 ?_)
                        refine J.keepE [(3, _), (5, _), (8, _), (86, _)] ⟨rfl, rfl, rfl, rfl, trivial⟩ ?_
                        refine J.ite rfl (fun h86 => ?_) (fun h86 => ?_)
                        ·
                          refine J.region ?_
                          refine J.y (op_move rfl rfl) rfl rfl rfl ?_
                          refine J.y ((op_add rfl rfl rfl (by first | omega | (simp only [List.length_append, List.length_cons, List.length_nil, List.length_take, List.length_drop] at *; omega))).as (v' := I ((a + 1 : Nat) : Int)) (congrArg I (by omega))) rfl rfl rfl ?_
                          refine J.y (op_assign rfl rfl) rfl rfl rfl ?_
                          refine J.nil ?_
                          refine J.then_n (J.k hK132 ?_)
                          refine J.keepE [(3, _), (5, _), (8, _)] ⟨rfl, rfl, rfl, trivial⟩ ?_
                          refine J.seq (fun K134 hK134 => ?_)
                          refine J.region ?_
                          refine J.y (op_assign rfl rfl) rfl rfl rfl ?_
                          refine J.y (op_assign rfl rfl) rfl rfl rfl ?_
                          refine J.nil ?_
                          refine J.then_n (J.k hK134 ?_)
                          refine J.keepE [(3, _), (5, _), (6, _), (7, _), (8, _)] ⟨rfl, rfl, rfl, rfl, rfl, trivial⟩ ?_
                          refine J.exit ?_
                          refine J.then_x ?_
                          refine J.blk_eq ?_
                          refine J.then_n (J.k hK14 ?_)
                          refine J.keepE [(3, _), (5, _), (6, _), (7, _), (8, _)] ⟨rfl, rfl, rfl, rfl, rfl, trivial⟩ ?_
                          refine J.region ?_
                          refine J.y (op_move rfl rfl) rfl rfl rfl ?_
                          refine J.y ((op_add rfl rfl rfl (by first | omega | (simp only [List.length_append, List.length_cons, List.length_nil, List.length_take, List.length_drop] at *; omega))).as (v' := I ((i + 1 : Nat) : Int)) (congrArg I (by omega))) rfl rfl rfl ?_
                          refine J.y (op_assign rfl rfl) rfl rfl rfl ?_
                          refine J.nil ?_
                          refine J.then_n ?_
                          exact J.kk (i + 1, a + 1, 0, false) (fun η (hη : _ ∧ (rlo s).length + 1 - η.1 < (rlo s).length + 1 - i) => hI0 η hη.1 hη.2) ⟨⟨by first | exact whyI_let hi (by omega) (by unfold sepr; rw [decide_eq_true_eq]; omega) (by omega) | exact whyI_end hi (by omega) (by simpa using h60) (good_yes (by omega)) | exact whyI_sep hi (by omega) (by unfold sepr; rw [decide_eq_true_eq]; omega) (by simpa using h60) (good_yes (by omega)) (by first | rw [if_pos (by omega)] | rw [if_neg (by omega)]), by dsimp only; omega⟩, by first | omega | (dsimp only; omega)⟩ ⟨rfl, rfl, rfl, rfl, rfl, trivial⟩ (fun _ h => h)
                        ·
                          refine J.skip ?_
                          refine J.then_n (J.k hK132 ?_)
                          refine J.keepE [(3, _), (5, _), (8, _)] ⟨rfl, rfl, rfl, trivial⟩ ?_
                          refine J.seq (fun K135 hK135 => ?_)
                          refine J.region ?_
                          refine J.y (op_assign rfl rfl) rfl rfl rfl ?_
                          refine J.y (op_assign rfl rfl) rfl rfl rfl ?_
                          refine J.nil ?_
                          refine J.then_n (J.k hK135 ?_)
                          refine J.keepE [(3, _), (5, _), (6, _), (7, _), (8, _)] ⟨rfl, rfl, rfl, rfl, rfl, trivial⟩ ?_
                          refine J.exit ?_
                          refine J.then_x ?_
                          refine J.blk_eq ?_
                          refine J.then_n (J.k hK14 ?_)
                          refine J.keepE [(3, _), (5, _), (6, _), (7, _), (8, _)] ⟨rfl, rfl, rfl, rfl, rfl, trivial⟩ ?_
                          refine J.region ?_
                          refine J.y (op_move rfl rfl) rfl rfl rfl ?_
                          refine J.y ((op_add rfl rfl rfl (by first | omega | (simp only [List.length_append, List.length_cons, List.length_nil, List.length_take, List.length_drop] at *; omega))).as (v' := I ((i + 1 : Nat) : Int)) (congrArg I (by omega))) rfl rfl rfl ?_
                          refine J.y (op_assign rfl rfl) rfl rfl rfl ?_
                          refine J.nil ?_
                          refine J.then_n ?_
                          exact J.kk (i + 1, a, 0, false) (fun η (hη : _ ∧ (rlo s).length + 1 - η.1 < (rlo s).length + 1 - i) => hI0 η hη.1 hη.2) ⟨⟨by first | exact whyI_let hi (by omega) (by unfold sepr; rw [decide_eq_true_eq]; omega) (by omega) | exact whyI_end hi (by omega) (by simpa using h60) (good_yes (by omega)) | exact whyI_sep hi (by omega) (by unfold sepr; rw [decide_eq_true_eq]; omega) (by simpa using h60) (good_yes (by omega)) (by first | rw [if_pos (by omega)] | rw [if_neg (by omega)]), by dsimp only; omega⟩, by first | omega | (dsimp only; omega)⟩ ⟨rfl, rfl, rfl, rfl, rfl, trivial⟩ (fun _ h => h)
                      ·
                        refine J.no (Wan.is rfl rfl rfl rfl rfl) rfl rfl ?_
                        refine J.no (Wan.is rfl rfl rfl rfl rfl) rfl rfl ?_
                        refine J.no (Wan.is rfl rfl rfl rfl rfl) rfl rfl ?_
                        refine J.no (Wan.is rfl rfl rfl rfl rfl) rfl rfl ?_
                        refine J.no (Wan.is rfl rfl rfl rfl rfl) rfl rfl ?_
                        refine J.y (op_pickF rfl rfl rfl) rfl rfl rfl ?_
                        refine J.nil ?_
                        refine J.then_n (J.k hK133 ?_)
                        refine J.keepE [(3, _), (5, _), (8, _), (86, _)] ⟨rfl, rfl, rfl, rfl, trivial⟩ ?_
                        refine J.condF rfl rfl ?_
                        refine J.skip ?_
                        refine J.then_n (J.k hK132 ?_)
                        refine J.keepE [(3, _), (5, _), (8, _)] ⟨rfl, rfl, rfl, trivial⟩ ?_
                        refine J.seq (fun K136 hK136 => ?_)
                        refine J.region ?_
                        refine J.y (op_assign rfl rfl) rfl rfl rfl ?_
                        refine J.y (op_assign rfl rfl) rfl rfl rfl ?_
                        refine J.nil ?_
                        refine J.then_n (J.k hK136 ?_)
                        refine J.keepE [(3, _), (5, _), (6, _), (7, _), (8, _)] ⟨rfl, rfl, rfl, rfl, rfl, trivial⟩ ?_
                        refine J.exit ?_
                        refine J.then_x ?_
                        refine J.blk_eq ?_
                        refine J.then_n (J.k hK14 ?_)
                        refine J.keepE [(3, _), (5, _), (6, _), (7, _), (8, _)] ⟨rfl, rfl, rfl, rfl, rfl, trivial⟩ ?_
                        refine J.region ?_
                        refine J.y (op_move rfl rfl) rfl rfl rfl ?_
                        refine J.y ((op_add rfl rfl rfl (by first | omega | (simp only [List.length_append, List.length_cons, List.length_nil, List.length_take, List.length_drop] at *; omega))).as (v' := I ((i + 1 : Nat) : Int)) (congrArg I (by omega))) rfl rfl rfl ?_
                        refine J.y (op_assign rfl rfl) rfl rfl rfl ?_
                        refine J.nil ?_
                        refine J.then_n ?_
                        exact J.kk (i + 1, a, 0, false) (fun η (hη : _ ∧ (rlo s).length + 1 - η.1 < (rlo s).length + 1 - i) => hI0 η hη.1 hη.2) ⟨⟨by first | exact whyI_let hi (by omega) (by unfold sepr; rw [decide_eq_true_eq]; omega) (by omega) | exact whyI_end hi (by omega) (by simpa using h60) (good_yes (by omega)) | exact whyI_sep hi (by omega) (by unfold sepr; rw [decide_eq_true_eq]; omega) (by simpa using h60) (good_yes (by omega)) (by first | rw [if_pos (by omega)] | rw [if_neg (by omega)]), by dsimp only; omega⟩, by first | omega | (dsimp only; omega)⟩ ⟨rfl, rfl, rfl, rfl, rfl, trivial⟩ (fun _ h => h)
                ·
                  refine J.skip ?_
                  refine J.then_n (J.k hK15 ?_)
                  refine J.keepE [(3, _), (5, _), (6, _), (8, _)] ⟨rfl, rfl, rfl, rfl, trivial⟩ ?_
                  refine J.seq (fun K137 hK137 => ?_)
                  refine J.region ?_
                  refine J.y (op_assign rfl rfl) rfl rfl rfl ?_
                  refine J.nil ?_
                  refine J.then_n (J.k hK137 ?_)
                  refine J.keepE [(3, _), (5, _), (6, _), (7, _), (8, _)] ⟨rfl, rfl, rfl, rfl, rfl, trivial⟩ ?_
                  refine J.seq (fun K138 hK138 => ?_)
                  refine J.region ?_
                  refine J.y (op_move rfl rfl) rfl rfl rfl ?_
                  refine J.y (op_move rfl rfl) rfl rfl rfl ?_
                  refine J.y (op_indexAddr (i := i) rfl rfl rfl Tryd.underlying27 Tryd.sizeOf3 h12.sl (by first | omega | (simp only [List.length_append, List.length_cons, List.length_nil, List.length_take, List.length_drop] at *; omega))) rfl rfl rfl ?_
                  refine J.y (op_load rfl rfl Tryd.isAgg3 (m := m12) (by simp) (h12.sl.elem (natsV_get (by first | omega | (simp only [List.length_append, List.length_cons, List.length_nil, List.length_take, List.length_drop] at *; omega))))) rfl rfl rfl ?_
                  refine J.e (op_call rfl rfl ent22 (Ct.use0 (fun F' hF => letterr_ct F' ((rlo s).getD i 0) (by omega)))) rfl rfl rfl ?_
                  intro g93 _
                  refine J.y (op_assign rfl rfl) rfl rfl rfl ?_
                  refine J.nil ?_
                  refine J.then_n (J.k hK138 ?_)
                  refine J.keepE [(3, _), (5, _), (6, _), (7, _), (8, _), (9, _)] ⟨rfl, rfl, rfl, rfl, rfl, rfl, trivial⟩ ?_
                  refine J.seq (fun K139 hK139 => ?_)
                  refine J.seq (fun K140 hK140 => ?_)
                  refine J.region ?_
                  refine J.y (op_move rfl rfl) rfl rfl rfl ?_
                  refine J.y (op_eql rfl rfl rfl) rfl rfl rfl ?_
                  refine J.y (op_move rfl rfl) rfl rfl rfl ?_
                  refine J.split (d := 96) rfl (fun h96 => ?_) (fun h96 => ?_)
                  ·
                    refine J.yg (Wan.is rfl rfl rfl rfl rfl) (op_move rfl rfl) rfl rfl ?_
                    refine J.yg (Wan.is rfl rfl rfl rfl rfl) (op_move rfl rfl) rfl rfl ?_
                    refine J.yg (Wan.is rfl rfl rfl rfl rfl) (op_indexAddr (i := i) rfl rfl rfl Tryd.underlying27 Tryd.sizeOf3 h12.sl (by first | omega | (simp only [List.length_append, List.length_cons, List.length_nil, List.length_take, List.length_drop] at *; omega))) rfl rfl ?_
                    refine J.yg (Wan.is rfl rfl rfl rfl rfl) (op_load rfl rfl Tryd.isAgg3 (m := m12) (by simp) (h12.sl.elem (natsV_get (by first | omega | (simp only [List.length_append, List.length_cons, List.length_nil, List.length_take, List.length_drop] at *; omega))))) rfl rfl ?_
                    refine J.yg (Wan.is rfl rfl rfl rfl rfl) (op_lss rfl rfl rfl) rfl rfl ?_
                    refine J.yg (Wan.is rfl rfl rfl rfl rfl) (op_move rfl rfl) rfl rfl ?_
                    refine J.split (d := 102) rfl (fun h102 => ?_) (fun h102 => ?_)
                    ·
                      refine J.no (Wan.is rfl rfl rfl rfl rfl) rfl rfl ?_
                      refine J.no (Wan.is rfl rfl rfl rfl rfl) rfl rfl ?_
                      refine J.no (Wan.is rfl rfl rfl rfl rfl) rfl rfl ?_
                      refine J.no (Wan.is rfl rfl rfl rfl rfl) rfl rfl ?_
                      refine J.no (Wan.is rfl rfl rfl rfl rfl) rfl rfl ?_
                      refine J.yg (Wan.is rfl rfl rfl rfl rfl) (op_pickT rfl rfl rfl) rfl rfl ?_
                      refine J.y (op_pickT rfl rfl rfl) rfl rfl rfl ?_
                      refine J.nil ?_
                      refine J.then_n (J.k hK140 ?_)
                      refine J.keepE [(3, _), (5, _), (6, _), (7, _), (8, _), (9, _), (109, _)] ⟨rfl, rfl, rfl, rfl, rfl, rfl, rfl, trivial⟩ ?_
                      refine J.condT rfl rfl ?_
                      refine J.seq (fun K141 hK141 => ?_)
                      refine J.region ?_
                      refine J.y (op_assign rfl rfl) rfl rfl rfl ?_
                      refine J.nil ?_
                      refine J.then_n (J.k hK141 ?_)
                      refine J.keepE [(2, _)] ⟨rfl, trivial⟩ ?_
                      refine J.ret ?_
                      refine J.then_r ?_
                      refine J.blk_r ?_
                      refine J.then_r ?_
                      refine J.then_r ?_
                      refine J.blk_r ?_
                      refine J.then_r ?_
                      exact J.done hw0 (fun _ _ h => h) (res1 rfl rfl) (retOk () (by first | (exfalso; omega) | exact why_is5 hwn (whyI_bad hi (by omega) (by first | (left; omega) | (right; exact (by unfold sepr; rw [decide_eq_true_eq]; omega))) (by first | (left; simpa using h60) | (right; exact good_no (by omega)))) | exact why_is5 hwn (whyI_bad2 hi (by omega) (by unfold sepr; rw [decide_eq_true_eq]; omega) (by omega)) | exact why_is5 hwn ((whyI_fin hi (by omega)).trans (decide_eq_false (by omega))) | exact why_is0 hwn ((whyI_fin hi (by omega)).trans (decide_eq_true (by omega)))) trivial [0] rfl (by decide))
                    ·
                      refine J.yg (Wan.is rfl rfl rfl rfl rfl) (op_move rfl rfl) rfl rfl ?_
                      refine J.yg (Wan.is rfl rfl rfl rfl rfl) (op_move rfl rfl) rfl rfl ?_
                      refine J.yg (Wan.is rfl rfl rfl rfl rfl) (op_indexAddr (i := i) rfl rfl rfl Tryd.underlying27 Tryd.sizeOf3 h12.sl (by first | omega | (simp only [List.length_append, List.length_cons, List.length_nil, List.length_take, List.length_drop] at *; omega))) rfl rfl ?_
                      refine J.yg (Wan.is rfl rfl rfl rfl rfl) (op_load rfl rfl Tryd.isAgg3 (m := m12) (by simp) (h12.sl.elem (natsV_get (by first | omega | (simp only [List.length_append, List.length_cons, List.length_nil, List.length_take, List.length_drop] at *; omega))))) rfl rfl ?_
                      refine J.yg (Wan.is rfl rfl rfl rfl rfl) (op_gtr rfl rfl rfl) rfl rfl ?_
                      refine J.yg (Wan.is rfl rfl rfl rfl rfl) (op_pickF rfl rfl rfl) rfl rfl ?_
                      refine J.y (op_pickT rfl rfl rfl) rfl rfl rfl ?_
                      refine J.nil ?_
                      refine J.then_n (J.k hK140 ?_)
                      refine J.keepE [(3, _), (5, _), (6, _), (7, _), (8, _), (9, _), (109, _)] ⟨rfl, rfl, rfl, rfl, rfl, rfl, rfl, trivial⟩ ?_
                      refine J.ite rfl (fun h109 => ?_) (fun h109 => ?_)
                      ·
                        refine J.seq (fun K142 hK142 => ?_)
                        refine J.region ?_
                        refine J.y (op_assign rfl rfl) rfl rfl rfl ?_
                        refine J.nil ?_
                        refine J.then_n (J.k hK142 ?_)
                        refine J.keepE [(2, _)] ⟨rfl, trivial⟩ ?_
                        refine J.ret ?_
                        refine J.then_r ?_
                        refine J.blk_r ?_
                        refine J.then_r ?_
                        refine J.then_r ?_
                        refine J.blk_r ?_
                        refine J.then_r ?_
                        exact J.done hw0 (fun _ _ h => h) (res1 rfl rfl) (retOk () (by first | (exfalso; omega) | exact why_is5 hwn (whyI_bad hi (by omega) (by first | (left; omega) | (right; exact (by unfold sepr; rw [decide_eq_true_eq]; omega))) (by first | (left; simpa using h60) | (right; exact good_no (by omega)))) | exact why_is5 hwn (whyI_bad2 hi (by omega) (by unfold sepr; rw [decide_eq_true_eq]; omega) (by omega)) | exact why_is5 hwn ((whyI_fin hi (by omega)).trans (decide_eq_false (by omega))) | exact why_is0 hwn ((whyI_fin hi (by omega)).trans (decide_eq_true (by omega)))) trivial [0] rfl (by decide))
                      ·
                        refine J.skip ?_
                        refine J.then_n (J.k hK139 ?_)
                        refine J.keepE [(3, _), (5, _), (6, _), (7, _), (8, _), (9, _)] ⟨rfl, rfl, rfl, rfl, rfl, rfl, trivial⟩ ?_
                        refine J.region ?_
                        refine J.y (op_move rfl rfl) rfl rfl rfl ?_
                        refine J.y (op_move rfl rfl) rfl rfl rfl ?_
                        have hll := lett_le ((rlo s).getD i 0)
                        refine J.y (op_orI (a := b) (b := lett ((rlo s).getD i 0)) rfl rfl rfl (by first | omega | (simp only [List.length_append, List.length_cons, List.length_nil, List.length_take, List.length_drop] at *; omega))) rfl rfl rfl ?_
                        refine J.y (op_assign rfl rfl) rfl rfl rfl ?_
                        refine J.nil ?_
                        refine J.blk_n ?_
                        refine J.then_n (J.k hK14 ?_)
                        refine J.keepE [(3, _), (5, _), (6, _), (7, _), (8, _)] ⟨rfl, rfl, rfl, rfl, rfl, trivial⟩ ?_
                        refine J.region ?_
                        refine J.y (op_move rfl rfl) rfl rfl rfl ?_
                        refine J.y ((op_add rfl rfl rfl (by first | omega | (simp only [List.length_append, List.length_cons, List.length_nil, List.length_take, List.length_drop] at *; omega))).as (v' := I ((i + 1 : Nat) : Int)) (congrArg I (by omega))) rfl rfl rfl ?_
                        refine J.y (op_assign rfl rfl) rfl rfl rfl ?_
                        refine J.nil ?_
                        refine J.then_n ?_
                        exact J.kk (i + 1, a, b ||| (lett ((rlo s).getD i 0)), true) (fun η (hη : _ ∧ (rlo s).length + 1 - η.1 < (rlo s).length + 1 - i) => hI0 η hη.1 hη.2) ⟨⟨by first | exact whyI_let hi (by omega) (by unfold sepr; rw [decide_eq_true_eq]; omega) (by omega) | exact whyI_end hi (by omega) (by simpa using h60) (good_yes (by omega)) | exact whyI_sep hi (by omega) (by unfold sepr; rw [decide_eq_true_eq]; omega) (by simpa using h60) (good_yes (by omega)) (by first | rw [if_pos (by omega)] | rw [if_neg (by omega)]), by dsimp only; omega⟩, by first | omega | (dsimp only; omega)⟩ ⟨rfl, rfl, rfl, rfl, rfl, trivial⟩ (fun _ h => h)
                  ·
                    refine J.no (Wan.is rfl rfl rfl rfl rfl) rfl rfl ?_
                    refine J.no (Wan.is rfl rfl rfl rfl rfl) rfl rfl ?_
                    refine J.no (Wan.is rfl rfl rfl rfl rfl) rfl rfl ?_
                    refine J.no (Wan.is rfl rfl rfl rfl rfl) rfl rfl ?_
                    refine J.no (Wan.is rfl rfl rfl rfl rfl) rfl rfl ?_
                    refine J.no (Wan.is rfl rfl rfl rfl rfl) rfl rfl ?_
                    refine J.no (Wan.un rfl rfl rfl rfl) rfl rfl ?_
                    refine J.no (Wan.un rfl rfl rfl rfl) rfl rfl ?_
                    refine J.no (Wan.un rfl rfl rfl rfl) rfl rfl ?_
                    refine J.no (Wan.un rfl rfl rfl rfl) rfl rfl ?_
                    refine J.no (Wan.un rfl rfl rfl rfl) rfl rfl ?_
                    refine J.no (Wan.is rfl rfl rfl rfl rfl) rfl rfl ?_
                    refine J.y (op_pickF rfl rfl rfl) rfl rfl rfl ?_
                    refine J.nil ?_
                    refine J.then_n (J.k hK140 ?_)
                    refine J.keepE [(3, _), (5, _), (6, _), (7, _), (8, _), (9, _), (109, _)] ⟨rfl, rfl, rfl, rfl, rfl, rfl, rfl, trivial⟩ ?_
                    refine J.condF rfl rfl ?_
                    refine J.skip ?_
                    refine J.then_n (J.k hK139 ?_)
                    refine J.keepE [(3, _), (5, _), (6, _), (7, _), (8, _), (9, _)] ⟨rfl, rfl, rfl, rfl, rfl, rfl, trivial⟩ ?_
                    refine J.region ?_
                    refine J.y (op_move rfl rfl) rfl rfl rfl ?_
                    refine J.y (op_move rfl rfl) rfl rfl rfl ?_
                    have hll := lett_le ((rlo s).getD i 0)
                    refine J.y (op_orI (a := b) (b := lett ((rlo s).getD i 0)) rfl rfl rfl (by first | omega | (simp only [List.length_append, List.length_cons, List.length_nil, List.length_take, List.length_drop] at *; omega))) rfl rfl rfl ?_
                    refine J.y (op_assign rfl rfl) rfl rfl rfl ?_
                    refine J.nil ?_
                    refine J.blk_n ?_
                    refine J.then_n (J.k hK14 ?_)
                    refine J.keepE [(3, _), (5, _), (6, _), (7, _), (8, _)] ⟨rfl, rfl, rfl, rfl, rfl, trivial⟩ ?_
                    refine J.region ?_
                    refine J.y (op_move rfl rfl) rfl rfl rfl ?_
                    refine J.y ((op_add rfl rfl rfl (by first | omega | (simp only [List.length_append, List.length_cons, List.length_nil, List.length_take, List.length_drop] at *; omega))).as (v' := I ((i + 1 : Nat) : Int)) (congrArg I (by omega))) rfl rfl rfl ?_
                    refine J.y (op_assign rfl rfl) rfl rfl rfl ?_
                    refine J.nil ?_
                    refine J.then_n ?_
                    exact J.kk (i + 1, a, b ||| (lett ((rlo s).getD i 0)), true) (fun η (hη : _ ∧ (rlo s).length + 1 - η.1 < (rlo s).length + 1 - i) => hI0 η hη.1 hη.2) ⟨⟨by first | exact whyI_let hi (by omega) (by unfold sepr; rw [decide_eq_true_eq]; omega) (by omega) | exact whyI_end hi (by omega) (by simpa using h60) (good_yes (by omega)) | exact whyI_sep hi (by omega) (by unfold sepr; rw [decide_eq_true_eq]; omega) (by simpa using h60) (good_yes (by omega)) (by first | rw [if_pos (by omega)] | rw [if_neg (by omega)]), by dsimp only; omega⟩, by first | omega | (dsimp only; omega)⟩ ⟨rfl, rfl, rfl, rfl, rfl, trivial⟩ (fun _ h => h)
      ·
        refine J.exit ?_
        refine J.then_x ?_
        refine J.then_x ?_
        refine J.blk_eq ?_
        refine J.then_n (J.k hK10 ?_)
        refine J.keepE [(5, _)] ⟨rfl, trivial⟩ ?_
        refine J.seq (fun K143 hK143 => ?_)
        refine J.seq (fun K144 hK144 => ?_)
        refine J.region ?_
        refine J.y (op_move rfl rfl) rfl rfl rfl ?_
        refine J.y (op_gtr rfl rfl rfl) rfl rfl rfl ?_
        refine J.nil ?_
        refine J.then_n (J.k hK144 ?_)
        refine J.keepE [(114, _)] ⟨rfl, trivial⟩ ?_
        refine J.ite rfl (fun h114 => ?_) (fun h114 => ?_)
        ·
          refine J.seq (fun K145 hK145 => ?_)
          refine J.region ?_
          refine J.y (op_assign rfl rfl) rfl rfl rfl ?_
          refine J.nil ?_
          refine J.then_n (J.k hK145 ?_)
          refine J.keepE [(2, _)] ⟨rfl, trivial⟩ ?_
          refine J.ret ?_
          refine J.then_r ?_
          exact J.done hw0 (fun _ _ h => h) (res1 rfl rfl) (retOk () (by first | (exfalso; omega) | exact why_is5 hwn (whyI_bad hi (by omega) (by first | (left; omega) | (right; exact (by unfold sepr; rw [decide_eq_true_eq]; omega))) (by first | (left; simpa using h60) | (right; exact good_no (by omega)))) | exact why_is5 hwn (whyI_bad2 hi (by omega) (by unfold sepr; rw [decide_eq_true_eq]; omega) (by omega)) | exact why_is5 hwn ((whyI_fin hi (by omega)).trans (decide_eq_false (by omega))) | exact why_is0 hwn ((whyI_fin hi (by omega)).trans (decide_eq_true (by omega)))) trivial [0] rfl (by decide))
        ·
          refine J.skip ?_
          refine J.then_n (J.k hK143 ?_)
          refine J.keepE [] trivial ?_
          refine J.seq (fun K146 hK146 => ?_)
          refine J.region ?_
          refine J.y (op_assign rfl rfl) rfl rfl rfl ?_
          refine J.nil ?_
          refine J.then_n (J.k hK146 ?_)
          refine J.keepE [(2, _)] ⟨rfl, trivial⟩ ?_
          refine J.ret ?_
          exact J.done hw0 (fun _ _ h => h) (res1 rfl rfl) (retOk () (by first | (exfalso; omega) | exact why_is5 hwn (whyI_bad hi (by omega) (by first | (left; omega) | (right; exact (by unfold sepr; rw [decide_eq_true_eq]; omega))) (by first | (left; simpa using h60) | (right; exact good_no (by omega)))) | exact why_is5 hwn (whyI_bad2 hi (by omega) (by unfold sepr; rw [decide_eq_true_eq]; omega) (by omega)) | exact why_is5 hwn ((whyI_fin hi (by omega)).trans (decide_eq_false (by omega))) | exact why_is0 hwn ((whyI_fin hi (by omega)).trans (decide_eq_true (by omega)))) trivial [0] rfl (by decide))

end Go.Proofs.YtpcffgkmpmcobaaDoor
