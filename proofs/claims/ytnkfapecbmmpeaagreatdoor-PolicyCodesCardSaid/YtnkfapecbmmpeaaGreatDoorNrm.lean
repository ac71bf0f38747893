/- A part of the proof: contracts of functions of the program, each for every state of the heaps that it names. -/
import Derived.Test.YtnkfapecbmmpeaaGreatDoorVal3
set_option linter.unusedSimpArgs false
set_option linter.unusedVariables false
namespace Go.Proofs.YtnkfapecbmmpeaaGreatDoor
open Go Go.Fw
set_option maxRecDepth 100000
set_option maxHeartbeats 1000000
theorem ent66 : Enters Tryz.prog 66 := Enters.of Tryz.func66 rfl (by kernel_rfl)
theorem ent67 : Enters Tryz.prog 67 := Enters.of Tryz.func67 rfl (by kernel_rfl)
theorem ent68 : Enters Tryz.prog 68 := Enters.of Tryz.func68 rfl (by kernel_rfl)
theorem ent81 : Enters Tryz.prog 81 := Enters.of Tryz.func81 rfl (by kernel_rfl)
theorem ent82 : Enters Tryz.prog 82 := Enters.of Tryz.func82 rfl (by kernel_rfl)
theorem ent83 : Enters Tryz.prog 83 := Enters.of Tryz.func83 rfl (by kernel_rfl)
theorem ent84 : Enters Tryz.prog 84 := Enters.of Tryz.func84 rfl (by kernel_rfl)

theorem lright_ct (F : Hp) (hA : Cells F ⟨1, 0, none⟩ alphaV) (hT : TabsF F) (s : List UInt8) (hs : s.length ≤ 1000000) : Ct Tryz.prog 67 [Str (s)] [F] (fun _ : Unit => .bool (right s)) (fun _ => True) (fun _ => [F]) := by
  refine Ct.walk Tryz.func67 rfl Tryz.ntmps67 rfl (fun w0 hw0 => ?_)
  change J _ [(0, _)] _ _ _
  refine J.seq (fun K1 hK1 => ?_)
  refine J.region ?_
  refine J.y (op_assign rfl rfl) rfl rfl rfl ?_
  refine J.nil ?_
  refine J.then_n (J.k hK1 ?_)
  refine J.keepE [(0, _)] ⟨rfl, trivial⟩ ?_
  refine J.seq (fun K2 hK2 => ?_)
  refine J.seq (fun K3 hK3 => ?_)
  refine J.region ?_
  refine J.y (op_move rfl rfl) rfl rfl rfl ?_
  refine J.e (op_rangeS rfl rfl Tryz.underlying9) rfl rfl rfl ?_
  rintro g8 _
  change J _ _ _ [F, itr g8 s 0] _
  refine J.nil ?_
  refine J.then_n (J.k hK3 ?_)
  refine J.keepE [(0, _), (8, _)] ⟨rfl, rfl, trivial⟩ ?_
  refine J.block ?_
  refine J.loop (X := Nat) (fun ζ => [(0, Str (s)), (8, Ptr g8)]) (fun ζ => [F, itr g8 s ζ]) (fun ζ => ζ ≤ s.length ∧ (rl (s.drop ζ)).all okR = (rl s).all okR) (fun ζ => s.length - ζ) 0 (⟨by omega, rfl⟩) ⟨rfl, rfl, trivial⟩ (fun _ h => h) ?_
  rintro p ⟨hp, he⟩ I0 hI0
  refine J.seq (fun K4 hK4 => ?_)
  refine J.region ?_
  refine J.e (op_nextS (i := 1) rfl rfl rfl) rfl rfl rfl ?_
  rintro _ _
  change J _ _ _ [F, itr g8 s (npos s p)] _
  refine J.y (op_extract (v := .bool (decide (p < s.length))) rfl rfl (nxt_0 _ _)) rfl rfl rfl ?_
  refine J.nil ?_
  refine J.then_n (J.k hK4 ?_)
  refine J.keepE [(0, _), (8, _), (9, _), (10, _)] ⟨rfl, rfl, rfl, rfl, trivial⟩ ?_
  refine J.seq (fun K5 hK5 => ?_)
  refine J.ite rfl (fun h10 => ?_) (fun h10 => ?_)
  ·
    have hps : p < s.length := h10
    have hnp := npos_in hps
    have hdl := dec_le s p hps
    have hdr := dec_rune s p (by omega)
    have hdp := dec_pos s p (by omega)
    have hrl := rl_at hps
    refine J.skip ?_
    refine J.then_n (J.k hK5 ?_)
    refine J.keepE [(0, _), (8, _), (9, _)] ⟨rfl, rfl, rfl, trivial⟩ ?_
    refine J.block ?_
    refine J.seq (fun K6 hK6 => ?_)
    refine J.region ?_
    refine J.y (op_extract (v := .int .i32 (((dec s p).1 : Nat) : Int)) rfl rfl (nxt_2 hps)) rfl rfl rfl ?_
    refine J.y (op_assign rfl rfl) rfl rfl rfl ?_
    refine J.nil ?_
    refine J.then_n (J.k hK6 ?_)
    refine J.keepE [(0, _), (4, _), (8, _)] ⟨rfl, rfl, rfl, trivial⟩ ?_
    refine J.seq (fun K7 hK7 => ?_)
    refine J.region ?_
    refine J.y (op_move rfl rfl) rfl rfl rfl ?_
    refine J.e (op_call rfl rfl ent79 (Ct.use0 (fun F' hF => letter_ct F' (hA.mono (hF F (by simp))) ((dec s p).1) (by omega)))) rfl rfl rfl ?_
    intro g13 _
    refine J.y (op_eql rfl rfl rfl) rfl rfl rfl ?_
    refine J.y (op_move rfl rfl) rfl rfl rfl ?_
    refine J.split (d := 15) rfl (fun h15 => ?_) (fun h15 => ?_)
    ·
      refine J.yg (Wan.is rfl rfl rfl rfl rfl) (op_move rfl rfl) rfl rfl ?_
      refine J.yg (Wan.is rfl rfl rfl rfl rfl) (op_lss rfl rfl rfl) rfl rfl ?_
      refine J.yg (Wan.is rfl rfl rfl rfl rfl) (op_move rfl rfl) rfl rfl ?_
      refine J.split (d := 18) rfl (fun h18 => ?_) (fun h18 => ?_)
      ·
        refine J.no (Wan.is rfl rfl rfl rfl rfl) rfl rfl ?_
        refine J.no (Wan.is rfl rfl rfl rfl rfl) rfl rfl ?_
        refine J.yg (Wan.is rfl rfl rfl rfl rfl) (op_pickT rfl rfl rfl) rfl rfl ?_
        refine J.y (op_pickT rfl rfl rfl) rfl rfl rfl ?_
        refine J.y (op_move rfl rfl) rfl rfl rfl ?_
        refine J.yg (Wan.is rfl rfl rfl rfl rfl) (op_move rfl rfl) rfl rfl ?_
        refine J.eg (Wan.is rfl rfl rfl rfl rfl) (op_call rfl rfl ent80 (Ct.use0 (fun F' hF => sep_ct F' ((dec s p).1)))) rfl rfl ?_
        intro g25 _
        refine J.yg (Wan.is rfl rfl rfl rfl rfl) (op_not rfl rfl) rfl rfl ?_
        refine J.y (op_pickT rfl rfl rfl) rfl rfl rfl ?_
        refine J.nil ?_
        refine J.then_n (J.k hK7 ?_)
        refine J.keepE [(0, _), (8, _), (27, _)] ⟨rfl, rfl, rfl, trivial⟩ ?_
        refine J.cond rfl (fun h27 => ?_) (fun h27 => ?_)
        ·
          refine J.seq (fun K8 hK8 => ?_)
          refine J.region ?_
          refine J.y (op_assign rfl rfl) rfl rfl rfl ?_
          refine J.nil ?_
          refine J.then_n (J.k hK8 ?_)
          refine J.keepE [(2, _)] ⟨rfl, trivial⟩ ?_
          refine J.ret ?_
          refine J.blk_r ?_
          refine J.then_r ?_
          refine J.blk_r ?_
          refine J.then_r ?_
          exact J.done hw0 (fun _ _ h => h) (res1 rfl rfl) (retOk () (by unfold right; rw [← he, hrl, List.all_cons, show okR (dec s p).1 = false from okr_no (by omega) (by omega) (by simpa using h27)]; rfl) trivial [0] rfl (by decide))
        ·
          refine J.skip ?_
          refine J.blk_n ?_
          refine J.then_n ?_
          exact J.kk (npos s p) (fun η (hη : _ ∧ s.length - η < s.length - p) => hI0 η hη.1 hη.2) ⟨⟨by omega, by rw [← he, hrl, List.all_cons, show okR (dec s p).1 = true by first | exact okr_sep (by simpa using h27) | exact okr_yes (by omega)]; rfl⟩, by first | omega | (dsimp only; omega)⟩ ⟨rfl, rfl, trivial⟩ (fun _ h => h)
      ·
        refine J.yg (Wan.is rfl rfl rfl rfl rfl) (op_move rfl rfl) rfl rfl ?_
        refine J.yg (Wan.is rfl rfl rfl rfl rfl) (op_gtr rfl rfl rfl) rfl rfl ?_
        refine J.yg (Wan.is rfl rfl rfl rfl rfl) (op_pickF rfl rfl rfl) rfl rfl ?_
        refine J.y (op_pickT rfl rfl rfl) rfl rfl rfl ?_
        refine J.y (op_move rfl rfl) rfl rfl rfl ?_
        refine J.split (d := 23) rfl (fun h23 => ?_) (fun h23 => ?_)
        ·
          refine J.yg (Wan.is rfl rfl rfl rfl rfl) (op_move rfl rfl) rfl rfl ?_
          refine J.eg (Wan.is rfl rfl rfl rfl rfl) (op_call rfl rfl ent80 (Ct.use0 (fun F' hF => sep_ct F' ((dec s p).1)))) rfl rfl ?_
          intro g25 _
          refine J.yg (Wan.is rfl rfl rfl rfl rfl) (op_not rfl rfl) rfl rfl ?_
          refine J.y (op_pickT rfl rfl rfl) rfl rfl rfl ?_
          refine J.nil ?_
          refine J.then_n (J.k hK7 ?_)
          refine J.keepE [(0, _), (8, _), (27, _)] ⟨rfl, rfl, rfl, trivial⟩ ?_
          refine J.cond rfl (fun h27 => ?_) (fun h27 => ?_)
          ·
            refine J.seq (fun K9 hK9 => ?_)
            refine J.region ?_
            refine J.y (op_assign rfl rfl) rfl rfl rfl ?_
            refine J.nil ?_
            refine J.then_n (J.k hK9 ?_)
            refine J.keepE [(2, _)] ⟨rfl, trivial⟩ ?_
            refine J.ret ?_
            refine J.blk_r ?_
            refine J.then_r ?_
            refine J.blk_r ?_
            refine J.then_r ?_
            exact J.done hw0 (fun _ _ h => h) (res1 rfl rfl) (retOk () (by unfold right; rw [← he, hrl, List.all_cons, show okR (dec s p).1 = false from okr_no (by omega) (by omega) (by simpa using h27)]; rfl) trivial [0] rfl (by decide))
          ·
            refine J.skip ?_
            refine J.blk_n ?_
            refine J.then_n ?_
            exact J.kk (npos s p) (fun η (hη : _ ∧ s.length - η < s.length - p) => hI0 η hη.1 hη.2) ⟨⟨by omega, by rw [← he, hrl, List.all_cons, show okR (dec s p).1 = true by first | exact okr_sep (by simpa using h27) | exact okr_yes (by omega)]; rfl⟩, by first | omega | (dsimp only; omega)⟩ ⟨rfl, rfl, trivial⟩ (fun _ h => h)
        ·
          refine J.no (Wan.is rfl rfl rfl rfl rfl) rfl rfl ?_
          refine J.no (Wan.is rfl rfl rfl rfl rfl) rfl rfl ?_
          refine J.no (Wan.is rfl rfl rfl rfl rfl) rfl rfl ?_
          refine J.y (op_pickF rfl rfl rfl) rfl rfl rfl ?_
          refine J.nil ?_
          refine J.then_n (J.k hK7 ?_)
          refine J.keepE [(0, _), (8, _), (27, _)] ⟨rfl, rfl, rfl, trivial⟩ ?_
          refine J.condF rfl rfl ?_
          refine J.skip ?_
          refine J.blk_n ?_
          refine J.then_n ?_
          exact J.kk (npos s p) (fun η (hη : _ ∧ s.length - η < s.length - p) => hI0 η hη.1 hη.2) ⟨⟨by omega, by rw [← he, hrl, List.all_cons, show okR (dec s p).1 = true by first | exact okr_sep (by simpa using h27) | exact okr_yes (by omega)]; rfl⟩, by first | omega | (dsimp only; omega)⟩ ⟨rfl, rfl, trivial⟩ (fun _ h => h)
    ·
      refine J.no (Wan.is rfl rfl rfl rfl rfl) rfl rfl ?_
      refine J.no (Wan.is rfl rfl rfl rfl rfl) rfl rfl ?_
      refine J.no (Wan.is rfl rfl rfl rfl rfl) rfl rfl ?_
      refine J.no (Wan.un rfl rfl rfl rfl) rfl rfl ?_
      refine J.no (Wan.un rfl rfl rfl rfl) rfl rfl ?_
      refine J.no (Wan.is rfl rfl rfl rfl rfl) rfl rfl ?_
      refine J.y (op_pickF rfl rfl rfl) rfl rfl rfl ?_
      refine J.y (op_move rfl rfl) rfl rfl rfl ?_
      refine J.no (Wan.is rfl rfl rfl rfl rfl) rfl rfl ?_
      refine J.no (Wan.is rfl rfl rfl rfl rfl) rfl rfl ?_
      refine J.no (Wan.is rfl rfl rfl rfl rfl) rfl rfl ?_
      refine J.y (op_pickF rfl rfl rfl) rfl rfl rfl ?_
      refine J.nil ?_
      refine J.then_n (J.k hK7 ?_)
      refine J.keepE [(0, _), (8, _), (27, _)] ⟨rfl, rfl, rfl, trivial⟩ ?_
      refine J.condF rfl rfl ?_
      refine J.skip ?_
      refine J.blk_n ?_
      refine J.then_n ?_
      exact J.kk (npos s p) (fun η (hη : _ ∧ s.length - η < s.length - p) => hI0 η hη.1 hη.2) ⟨⟨by omega, by rw [← he, hrl, List.all_cons, show okR (dec s p).1 = true by first | exact okr_sep (by simpa using h27) | exact okr_yes (by omega)]; rfl⟩, by first | omega | (dsimp only; omega)⟩ ⟨rfl, rfl, trivial⟩ (fun _ h => h)
  ·
    refine J.exit ?_
    refine J.then_x ?_
    refine J.then_x ?_
    refine J.blk_eq ?_
    refine J.then_n (J.k hK2 ?_)
    refine J.keepE [(0, _)] ⟨rfl, trivial⟩ ?_
    refine J.seq (fun K10 hK10 => ?_)
    refine J.seq (fun K11 hK11 => ?_)
    have hk1 : (rl s).all okR = true := by rw [← he, List.drop_of_length_le (by omega), rl_nil]; rfl
    refine J.region ?_
    refine J.y (op_move rfl rfl) rfl rfl rfl ?_
    refine J.e (op_call rfl rfl ent81 (Ct.use (new := fun x : Option Addr × Nat × Hp => [x.2.2]) (fun F' hF => parts_ct F' (hT.mono (hF F (by simp))) s (by omega)))) rfl rfl rfl ?_
    rintro ⟨A29, c29, m29⟩ h29
    try dsimp only at h29
    change J _ ((29, .slice A29 (spl [] s).length c29) :: _) _ [F, itr g8 s (npos s p), m29] _
    refine J.y (op_len Tryz.underlying35 rfl rfl) rfl rfl rfl ?_
    refine J.y (op_move rfl rfl) rfl rfl rfl ?_
    refine J.nil ?_
    refine J.then_n (J.k hK11 ?_)
    refine J.keepE [(0, _), (29, _), (30, _), (31, _)] ⟨rfl, rfl, rfl, rfl, trivial⟩ ?_
    refine J.block ?_
    refine J.loop (X := Nat) (fun ζ => [(0, Str (s)), (29, .slice A29 ((spl [] s).length) c29), (30, I (((spl [] s).length : Nat) : Int)), (31, I ((ζ : Nat) : Int))]) (fun ζ => [F, m29]) (fun ζ => ζ ≤ (spl [] s).length ∧ ((spl [] s).take ζ).all okP = true) (fun ζ => (spl [] s).length - ζ) 0 (⟨by omega, rfl⟩) ⟨rfl, rfl, rfl, rfl, trivial⟩ (fun _ h => h.pick [0, 2] (by decide)) ?_
    rintro k ⟨hk, hq⟩ I2 hI2
    refine J.seq (fun K12 hK12 => ?_)
    refine J.region ?_
    refine J.y (op_lss rfl rfl rfl) rfl rfl rfl ?_
    refine J.nil ?_
    refine J.then_n (J.k hK12 ?_)
    refine J.keepE [(0, _), (29, _), (30, _), (31, _), (32, _)] ⟨rfl, rfl, rfl, rfl, rfl, trivial⟩ ?_
    refine J.seq (fun K13 hK13 => ?_)
    refine J.ite rfl (fun h32 => ?_) (fun h32 => ?_)
    ·
      have hpn := spl_num s []
      have hpl : ((spl [] s).getD k []).length ≤ 1000000 := Nat.le_trans (spl_len s k) hs
      refine J.skip ?_
      refine J.then_n (J.k hK13 ?_)
      refine J.keepE [(0, _), (29, _), (30, _), (31, _)] ⟨rfl, rfl, rfl, rfl, trivial⟩ ?_
      refine J.seq (fun K14 hK14 => ?_)
      refine J.block ?_
      refine J.seq (fun K15 hK15 => ?_)
      refine J.region ?_
      refine J.y (op_indexAddr (i := k) rfl rfl rfl Tryz.underlying35 Tryz.sizeOf9 h29.sl (by first | omega | (simp only [List.length_append, List.length_cons, List.length_nil, List.length_take, List.length_drop] at *; omega))) rfl rfl rfl ?_
      refine J.y (op_load rfl rfl Tryz.isAgg9 (m := m29) (by simp) (h29.sl.elem (strsV_get (getSome [] (by first | omega | (simp only [List.length_append, List.length_cons, List.length_nil, List.length_take, List.length_drop] at *; omega)))))) rfl rfl rfl ?_
      refine J.y (op_assign rfl rfl) rfl rfl rfl ?_
      refine J.nil ?_
      refine J.then_n (J.k hK15 ?_)
      refine J.keepE [(0, _), (6, _), (29, _), (30, _), (31, _)] ⟨rfl, rfl, rfl, rfl, rfl, trivial⟩ ?_
      refine J.seq (fun K16 hK16 => ?_)
      refine J.region ?_
      refine J.y (op_move rfl rfl) rfl rfl rfl ?_
      refine J.y (op_seq rfl rfl rfl) rfl rfl rfl ?_
      refine J.y (op_move rfl rfl) rfl rfl rfl ?_
      refine J.split (d := 37) rfl (fun h37 => ?_) (fun h37 => ?_)
      ·
        refine J.no (Wan.is rfl rfl rfl rfl rfl) rfl rfl ?_
        refine J.no (Wan.is rfl rfl rfl rfl rfl) rfl rfl ?_
        refine J.no (Wan.is rfl rfl rfl rfl rfl) rfl rfl ?_
        refine J.no (Wan.is rfl rfl rfl rfl rfl) rfl rfl ?_
        refine J.y (op_pickT rfl rfl rfl) rfl rfl rfl ?_
        refine J.nil ?_
        refine J.then_n (J.k hK16 ?_)
        refine J.keepE [(0, _), (29, _), (30, _), (31, _), (42, _)] ⟨rfl, rfl, rfl, rfl, rfl, trivial⟩ ?_
        refine J.condT rfl rfl ?_
        refine J.seq (fun K17 hK17 => ?_)
        refine J.region ?_
        refine J.y (op_assign rfl rfl) rfl rfl rfl ?_
        refine J.nil ?_
        refine J.then_n (J.k hK17 ?_)
        refine J.keepE [(2, _)] ⟨rfl, trivial⟩ ?_
        refine J.ret ?_
        refine J.blk_r ?_
        refine J.then_r ?_
        refine J.then_r ?_
        refine J.blk_r ?_
        refine J.then_r ?_
        exact J.done hw0 (fun _ _ h => h) (res1 rfl rfl) (retOk () (by unfold right; rw [drop_all (k := k) (by omega) (by unfold okP; rw [h37]; rfl), Bool.and_false]; rfl) trivial [0] rfl (by decide))
      ·
        refine J.yg (Wan.is rfl rfl rfl rfl rfl) (op_move rfl rfl) rfl rfl ?_
        refine J.eg (Wan.is rfl rfl rfl rfl rfl) (op_call rfl rfl ent83 (Ct.use0 (fun F' hF => alph_ct F' (hA.mono (hF F (by simp))) ((spl [] s).getD k []) (by omega)))) rfl rfl ?_
        intro g39 _
        refine J.eg (Wan.is rfl rfl rfl rfl rfl) (op_call rfl rfl ent82 (Ct.use0 (fun F' hF => one_ct F' (alph (rl ((spl [] s).getD k [])) 0) (alph_le _ _ (by omega))))) rfl rfl ?_
        intro g40 _
        refine J.yg (Wan.is rfl rfl rfl rfl rfl) (op_not rfl rfl) rfl rfl ?_
        refine J.y (op_pickF rfl rfl rfl) rfl rfl rfl ?_
        refine J.nil ?_
        refine J.then_n (J.k hK16 ?_)
        refine J.keepE [(0, _), (29, _), (30, _), (31, _), (42, _)] ⟨rfl, rfl, rfl, rfl, rfl, trivial⟩ ?_
        refine J.cond rfl (fun h42 => ?_) (fun h42 => ?_)
        ·
          refine J.seq (fun K18 hK18 => ?_)
          refine J.region ?_
          refine J.y (op_assign rfl rfl) rfl rfl rfl ?_
          refine J.nil ?_
          refine J.then_n (J.k hK18 ?_)
          refine J.keepE [(2, _)] ⟨rfl, trivial⟩ ?_
          refine J.ret ?_
          refine J.blk_r ?_
          refine J.then_r ?_
          refine J.then_r ?_
          refine J.blk_r ?_
          refine J.then_r ?_
          exact J.done hw0 (fun _ _ h => h) (res1 rfl rfl) (retOk () (by unfold right; rw [drop_all (k := k) (by omega) (by unfold okP; rw [show good (alph (rl ((spl [] s).getD k [])) 0) = false from by simpa using h42, Bool.and_false]), Bool.and_false]; rfl) trivial [0] rfl (by decide))
        ·
          refine J.skip ?_
          refine J.blk_n ?_
          refine J.then_n (J.k hK14 ?_)
          refine J.keepE [(0, _), (29, _), (30, _), (31, _)] ⟨rfl, rfl, rfl, rfl, trivial⟩ ?_
          refine J.region ?_
          refine J.y ((op_add rfl rfl rfl (by first | omega | (simp only [List.length_append, List.length_cons, List.length_nil, List.length_take, List.length_drop] at *; omega))).as (v' := I ((k + 1 : Nat) : Int)) (congrArg I (by omega))) rfl rfl rfl ?_
          refine J.y (op_move rfl rfl) rfl rfl rfl ?_
          refine J.nil ?_
          refine J.then_n ?_
          exact J.kk (k + 1) (fun η (hη : _ ∧ (spl [] s).length - η < (spl [] s).length - k) => hI2 η hη.1 hη.2) ⟨⟨by omega, by rw [take_all (by omega), hq]; unfold okP; rw [decide_eq_true h37]; simpa using h42⟩, by first | omega | (dsimp only; omega)⟩ ⟨rfl, rfl, rfl, rfl, trivial⟩ (fun _ h => h)
    ·
      refine J.exit ?_
      refine J.then_x ?_
      refine J.then_x ?_
      refine J.blk_eq ?_
      refine J.then_n (J.k hK10 ?_)
      refine J.keepE [(0, _)] ⟨rfl, trivial⟩ ?_
      refine J.seq (fun K19 hK19 => ?_)
      have hk2 : (spl [] s).all okP = true := by rw [← hq, List.take_of_length_le (by omega)]
      refine J.region ?_
      refine J.y (op_move rfl rfl) rfl rfl rfl ?_
      refine J.e (op_call rfl rfl ent84 (Ct.use0 (fun F' hF => scount_ct F' s (by omega)))) rfl rfl rfl ?_
      intro g45 _
      refine J.y (op_leq rfl rfl rfl) rfl rfl rfl ?_
      refine J.y (op_assign rfl rfl) rfl rfl rfl ?_
      refine J.nil ?_
      refine J.then_n (J.k hK19 ?_)
      refine J.keepE [(2, _)] ⟨rfl, trivial⟩ ?_
      refine J.ret ?_
      exact J.done hw0 (fun _ _ h => h) (res1 rfl rfl) (retOk () (by unfold right; rw [hk1, hk2]; exact congrArg Value.bool (decide_eq_decide.2 (by omega))) trivial [0] rfl (by decide))

theorem normal_ct (F : Hp) (hA : Cells F ⟨1, 0, none⟩ alphaV) (hT : TabsF F) (s : List UInt8) (hs : s.length ≤ 1000000) : Ct Tryz.prog 57 [Str (s)] [F] (fun _ : Unit => .tuple #[Str ((normal s).1), I (((normal s).2 : Nat) : Int)]) (fun _ => True) (fun _ => [F]) := by
  refine Ct.walk Tryz.func57 rfl Tryz.ntmps57 rfl (fun w0 hw0 => ?_)
  change J _ [(0, _)] _ _ _
  refine J.seq (fun K1 hK1 => ?_)
  refine J.region ?_
  refine J.y (op_assign rfl rfl) rfl rfl rfl ?_
  refine J.y (op_assign rfl rfl) rfl rfl rfl ?_
  refine J.nil ?_
  refine J.then_n (J.k hK1 ?_)
  refine J.keepE [(0, _)] ⟨rfl, trivial⟩ ?_
  refine J.seq (fun K2 hK2 => ?_)
  refine J.region ?_
  refine J.y (op_move rfl rfl) rfl rfl rfl ?_
  refine J.e (op_call rfl rfl ent66 (Ct.use0 (fun F' hF => runes_ct F' (hT.mono (hF F (by simp))) s (by omega)))) rfl rfl rfl ?_
  intro g8 _
  refine J.y (op_move rfl rfl) rfl rfl rfl ?_
  refine J.y (op_extract (v := I ((if vld s = true then (rl s).length else 0 : Nat) : Int)) rfl rfl rfl) rfl rfl rfl ?_
  refine J.y (op_extract (v := .bool (vld s)) rfl rfl rfl) rfl rfl rfl ?_
  refine J.y (op_assign rfl rfl) rfl rfl rfl ?_
  refine J.y (op_assign rfl rfl) rfl rfl rfl ?_
  refine J.nil ?_
  refine J.then_n (J.k hK2 ?_)
  refine J.keepE [(0, _), (4, _), (5, _)] ⟨rfl, rfl, rfl, trivial⟩ ?_
  refine J.seq (fun K3 hK3 => ?_)
  refine J.block ?_
  refine J.seq (fun K4 hK4 => ?_)
  refine J.region ?_
  refine J.y (op_move rfl rfl) rfl rfl rfl ?_
  refine J.y (op_not rfl rfl) rfl rfl rfl ?_
  refine J.y (op_assign rfl rfl) rfl rfl rfl ?_
  refine J.nil ?_
  refine J.then_n (J.k hK4 ?_)
  refine J.keepE [(0, _), (4, _), (11, _)] ⟨rfl, rfl, rfl, trivial⟩ ?_
  refine J.cond rfl (fun h11 => ?_) (fun h11 => ?_)
  ·
    refine J.seq (fun K5 hK5 => ?_)
    refine J.region ?_
    refine J.y (op_assign rfl rfl) rfl rfl rfl ?_
    refine J.y (op_assign rfl rfl) rfl rfl rfl ?_
    refine J.nil ?_
    refine J.then_n (J.k hK5 ?_)
    refine J.keepE [(2, _), (3, _)] ⟨rfl, rfl, trivial⟩ ?_
    refine J.ret ?_
    refine J.blk_r ?_
    refine J.then_r ?_
    exact J.done hw0 (fun _ _ h => h) (res2 rfl rfl rfl) (retOk () (by unfold normal; rw [if_neg (by simpa using h11)]; rfl) trivial [0] rfl (by decide))
  ·
    refine J.seq (fun K6 hK6 => ?_)
    have hv : vld s = true := by simpa using h11
    refine J.region ?_
    refine J.y (op_move rfl rfl) rfl rfl rfl ?_
    refine J.y (op_gtr rfl rfl rfl) rfl rfl rfl ?_
    refine J.y (op_assign rfl rfl) rfl rfl rfl ?_
    refine J.nil ?_
    refine J.then_n (J.k hK6 ?_)
    refine J.keepE [(0, _), (14, _)] ⟨rfl, rfl, trivial⟩ ?_
    refine J.ite rfl (fun h14 => ?_) (fun h14 => ?_)
    ·
      refine J.seq (fun K7 hK7 => ?_)
      rw [if_pos hv] at h14
      refine J.region ?_
      refine J.y (op_assign rfl rfl) rfl rfl rfl ?_
      refine J.y (op_assign rfl rfl) rfl rfl rfl ?_
      refine J.nil ?_
      refine J.then_n (J.k hK7 ?_)
      refine J.keepE [(2, _), (3, _)] ⟨rfl, rfl, trivial⟩ ?_
      refine J.ret ?_
      refine J.blk_r ?_
      refine J.then_r ?_
      exact J.done hw0 (fun _ _ h => h) (res2 rfl rfl rfl) (retOk () (by unfold normal; rw [if_pos hv, if_neg (by omega)]; rfl) trivial [0] rfl (by decide))
    ·
      refine J.seq (fun K8 hK8 => ?_)
      rw [if_pos hv] at h14
      refine J.region ?_
      refine J.y (op_move rfl rfl) rfl rfl rfl ?_
      refine J.e (op_call rfl rfl ent67 (Ct.use0 (fun F' hF => lright_ct F' (hA.mono (hF F (by simp))) (hT.mono (hF F (by simp))) s (by omega)))) rfl rfl rfl ?_
      intro g19 _
      refine J.y (op_not rfl rfl) rfl rfl rfl ?_
      refine J.y (op_assign rfl rfl) rfl rfl rfl ?_
      refine J.nil ?_
      refine J.then_n (J.k hK8 ?_)
      refine J.keepE [(0, _), (17, _)] ⟨rfl, rfl, trivial⟩ ?_
      refine J.cond rfl (fun h17 => ?_) (fun h17 => ?_)
      ·
        refine J.seq (fun K9 hK9 => ?_)
        refine J.region ?_
        refine J.y (op_assign rfl rfl) rfl rfl rfl ?_
        refine J.y (op_assign rfl rfl) rfl rfl rfl ?_
        refine J.nil ?_
        refine J.then_n (J.k hK9 ?_)
        refine J.keepE [(2, _), (3, _)] ⟨rfl, rfl, trivial⟩ ?_
        refine J.ret ?_
        refine J.blk_r ?_
        refine J.then_r ?_
        exact J.done hw0 (fun _ _ h => h) (res2 rfl rfl rfl) (retOk () (by unfold normal; rw [if_pos hv, if_pos (by omega), if_neg (by simpa using h17)]; rfl) trivial [0] rfl (by decide))
      ·
        refine J.skip ?_
        refine J.blk_n ?_
        refine J.then_n (J.k hK3 ?_)
        refine J.keepE [(0, _)] ⟨rfl, trivial⟩ ?_
        refine J.seq (fun K10 hK10 => ?_)
        refine J.region ?_
        refine J.y (op_move rfl rfl) rfl rfl rfl ?_
        refine J.e (op_call rfl rfl ent68 (Ct.use0 (fun F' hF => map_ct F' (hA.mono (hF F (by simp))) (hT.mono (hF F (by simp))) s (by omega) (by assumption)))) rfl rfl rfl ?_
        intro g22 _
        refine J.y (op_assign rfl rfl) rfl rfl rfl ?_
        refine J.y (op_assign rfl rfl) rfl rfl rfl ?_
        refine J.nil ?_
        refine J.then_n (J.k hK10 ?_)
        refine J.keepE [(2, _), (3, _)] ⟨rfl, rfl, trivial⟩ ?_
        refine J.ret ?_
        exact J.done hw0 (fun _ _ h => h) (res2 rfl rfl rfl) (retOk () (by unfold normal; rw [if_pos hv, if_pos (by omega), if_pos (by simpa using h17)]; rfl) trivial [0] rfl (by decide))

end Go.Proofs.YtnkfapecbmmpeaaGreatDoor
