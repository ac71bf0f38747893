/- A part of the proof: contracts of functions of the program, each for every state of the heaps that it names. -/
import Derived.Test.YtnkfapecbmmpeaaDoorPrc
import Derived.Test.YtnkfapecbmmpeaaDoorPrf3
set_option linter.unusedSimpArgs false
set_option linter.unusedVariables false
namespace Go.Proofs.YtnkfapecbmmpeaaDoor
open Go Go.Fw
set_option maxRecDepth 100000
set_option maxHeartbeats 1000000
theorem ent84 : Enters Tryd.prog 84 := Enters.of Tryd.func84 rfl (by kernel_rfl)
theorem ent86 : Enters Tryd.prog 86 := Enters.of Tryd.func86 rfl (by kernel_rfl)
theorem ent97 : Enters Tryd.prog 97 := Enters.of Tryd.func97 rfl (by kernel_rfl)

theorem pdec14_ct (F : Hp) (s : List UInt8) (hs : s.length ≤ 1000000) : Ct Tryd.prog 46 [Str s] [F] (fun x : Option Addr × Nat × Hp => .tuple #[.agg #[.slice x.1 (pdB s).length x.2.1, .bool (pdT s), Str (pdK s), Str (pdV s)], I (pdE s)]) (fun x => Row x.2.2 9 1 x.1 (pdB s).length x.2.1 (strsV (pdB s))) (fun x => [F, x.2.2]) := by
  have hbn : natB ((⟨s, 0⟩ : RS).out 1) < 256 := byte_lt
  have hbt : natB ((pd2 s).out 1) < 256 := byte_lt
  have hpn : natB ((⟨s, 0⟩ : RS).out 1) = pdn s := rfl
  have hpt : natB ((pd2 s).out 1) = pdt s := rfl
  refine Ct.walk Tryd.func46 rfl Tryd.ntmps46 rfl (fun w0 hw0 => ?_)
  change J _ [(0, _)] _ _ _
  refine J.seq (fun K1 hK1 => ?_)
  refine J.region ?_
  refine J.e (op_alloc (l := [.slice none 0 0, .bool false, Str [], Str []]) rfl Tryd.zeroValue57 rfl) rfl rfl rfl ?_
  intro g2 _
  change J _ _ _ [F, blk g2 [.slice none 0 0, .bool false, Str [], Str []] 57] _
  refine J.y (op_assign rfl rfl) rfl rfl rfl ?_
  refine J.nil ?_
  refine J.then_n (J.k hK1 ?_)
  refine J.keepE [(0, _), (2, _)] ⟨rfl, rfl, trivial⟩ ?_
  refine J.seq (fun K2 hK2 => ?_)
  refine J.region ?_
  refine J.y (op_move rfl rfl) rfl rfl rfl ?_
  refine J.e (op_call rfl rfl ent84 (Ct.use (new := fun g => [RSb g (⟨s, 0⟩)]) (fun F' _ => (read_ct F' s).mono (φ2 := fun _ => True) (val2 := Ptr) (ms2 := fun g => F' :: [RSb g (⟨s, 0⟩)]) id (fun _ _ => rfl) (fun _ h => h) (fun x w0 w _ h => h.pick [1, 0] (by decide))))) rfl rfl rfl ?_
  rintro g10 _
  change J _ ((10, Ptr g10) :: _) _ [F, blk g2 [.slice none 0 0, .bool false, Str [], Str []] 57, RSb g10 (⟨s, 0⟩)] _
  refine J.y (op_assign rfl rfl) rfl rfl rfl ?_
  refine J.nil ?_
  refine J.then_n (J.k hK2 ?_)
  refine J.keepE [(2, _), (4, _)] ⟨rfl, rfl, trivial⟩ ?_
  refine J.seq (fun K3 hK3 => ?_)
  refine J.region ?_
  refine J.y (op_move rfl rfl) rfl rfl rfl ?_
  refine J.e (op_call rfl rfl ent85 (Ct.use1 2 (m' := fun _ : Unit => RSb g10 (pd1 s)) (new := fun _ => []) rfl (fun F' _ => rnum_ct F' g10 (⟨s, 0⟩) 1 (by decide) (by decide)))) rfl rfl rfl ?_
  intro g12 _
  change J _ _ _ [F, blk g2 [.slice none 0 0, .bool false, Str [], Str []] 57, RSb g10 (pd1 s)] _
  have hn5 : pdn s < 256 := hbn
  have htd : pdt s < 256 := hbt
  refine J.y (op_cvU_toI (a := pdn s) rfl rfl Tryd.underlying108 Tryd.underlying3 (by first | omega | (simp only [List.length_append, List.length_cons, List.length_nil, List.length_take, List.length_drop] at *; omega))) rfl rfl rfl ?_
  refine J.y (op_assign rfl rfl) rfl rfl rfl ?_
  refine J.nil ?_
  refine J.then_n (J.k hK3 ?_)
  refine J.keepE [(2, _), (4, _), (5, _)] ⟨rfl, rfl, rfl, trivial⟩ ?_
  refine J.seq (fun K4 hK4 => ?_)
  refine J.region ?_
  refine J.e (op_alloc (l := [.slice none 0 0, .bool false, Str [], Str []]) rfl Tryd.zeroValue57 rfl) rfl rfl rfl ?_
  intro g6 _
  change J _ _ _ [F, blk g2 [.slice none 0 0, .bool false, Str [], Str []] 57, RSb g10 (pd1 s), blk g6 [.slice none 0 0, .bool false, Str [], Str []] 57] _
  refine J.nil ?_
  refine J.then_n (J.k hK4 ?_)
  refine J.keepE [(2, _), (4, _), (5, _), (6, _)] ⟨rfl, rfl, rfl, rfl, trivial⟩ ?_
  refine J.seq (fun K5 hK5 => ?_)
  refine J.seq (fun K6 hK6 => ?_)
  refine J.region ?_
  refine J.y (op_move rfl rfl) rfl rfl rfl ?_
  refine J.y ((op_min rfl rfl rfl).as (v' := I ((min (pdn s) 128 : Nat) : Int)) (congrArg I (by omega))) rfl rfl rfl ?_
  refine J.y (op_move rfl rfl) rfl rfl rfl ?_
  refine J.nil ?_
  refine J.then_n (J.k hK6 ?_)
  refine J.keepE [(2, _), (4, _), (5, _), (6, _), (15, _), (16, _)] ⟨rfl, rfl, rfl, rfl, rfl, rfl, trivial⟩ ?_
  refine J.block ?_
  refine J.loop (X := Nat × Option Addr × Nat × Hp) (fun ζ => [(2, Ptr g2), (4, Ptr g10), (5, I ((pdn s : Nat) : Int)), (6, Ptr g6), (15, I ((min (pdn s) 128 : Nat) : Int)), (16, I ((ζ.1 : Nat) : Int))]) (fun ζ => [F, blk g2 [.slice none 0 0, .bool false, Str [], Str []] 57, RSb g10 ((pd1 s).after ζ.1), blk g6 [.slice ζ.2.1 ((pd1 s).tx ζ.1).length ζ.2.2.1, .bool false, Str [], Str []] 57, ζ.2.2.2]) (fun ζ => ζ.1 ≤ min (pdn s) 128 ∧ Row ζ.2.2.2 9 1 ζ.2.1 ((pd1 s).tx ζ.1).length ζ.2.2.1 (strsV ((pd1 s).tx ζ.1))) (fun ζ => min (pdn s) 128 - ζ.1) (0, none, 0, (fun _ => none)) (⟨Nat.zero_le _, RowQ.nil⟩) ⟨rfl, rfl, rfl, rfl, rfl, rfl, trivial⟩ (fun _ h => h.empty.pick [0, 1, 2, 3, 4] (by decide)) ?_
  rintro ⟨i, A, c, mb⟩ ⟨hi, hr⟩ I0 hI0
  dsimp only at hi hr ⊢
  have htl := tx_length (pd1 s) i
  refine J.seq (fun K7 hK7 => ?_)
  refine J.region ?_
  refine J.y (op_lss rfl rfl rfl) rfl rfl rfl ?_
  refine J.nil ?_
  refine J.then_n (J.k hK7 ?_)
  refine J.keepE [(2, _), (4, _), (5, _), (6, _), (15, _), (16, _), (17, _)] ⟨rfl, rfl, rfl, rfl, rfl, rfl, rfl, trivial⟩ ?_
  refine J.seq (fun K8 hK8 => ?_)
  refine J.ite rfl (fun h17 => ?_) (fun h17 => ?_)
  ·
    refine J.skip ?_
    refine J.then_n (J.k hK8 ?_)
    refine J.keepE [(2, _), (4, _), (5, _), (6, _), (15, _), (16, _)] ⟨rfl, rfl, rfl, rfl, rfl, rfl, trivial⟩ ?_
    refine J.seq (fun K9 hK9 => ?_)
    refine J.block ?_
    refine J.draw [blk g6 [.slice A ((pd1 s).tx i).length c, .bool false, Str [], Str []] 57] [7] (.y 0 (.y 1 (.y 2 (.e 3 (.e 4 (.e 5 (.y 6 (.e 7 .nil)))))))) Tryd.wide (by decide +kernel) (by simp) ?_
    refine J.dy rfl (op_fieldAddr (j := 0) rfl rfl Tryd.underlying57 rfl Tryd.sizeOf55 rfl) rfl rfl rfl rfl ?_
    refine J.dy rfl (op_loadB 0 (v := .slice A ((pd1 s).tx i).length c) rfl rfl rfl Tryd.isAgg55 rfl) rfl rfl rfl rfl ?_
    refine J.dy rfl (op_move rfl rfl) rfl rfl rfl rfl ?_
    refine J.de rfl (op_call rfl rfl ent97 (Ct.use1 2 (m' := fun _ : Unit => RSb g10 ((pd1 s).after (i + 1))) (new := fun _ => []) rfl (fun F' _ => rtext_ct F' g10 ((pd1 s).after i) ))) rfl rfl rfl (by simp) ?_
    intro g21 _
    change J _ _ _ [F, blk g2 [.slice none 0 0, .bool false, Str [], Str []] 57, RSb g10 ((pd1 s).after (i + 1)), blk g6 [.slice A ((pd1 s).tx i).length c, .bool false, Str [], Str []] 57, mb] _
    refine J.de rfl (op_buildSlice (l := [.tmp 21]) (xs := [[Str (((pd1 s).after i).textS)]]) rfl rfl rfl rfl Tryd.underlying55 el9 rfl (by decide) (by decide) (by simp)) rfl rfl rfl (by simp) ?_
    intro g22 _
    change J _ _ _ [F, blk g2 [.slice none 0 0, .bool false, Str [], Str []] 57, RSb g10 ((pd1 s).after (i + 1)), blk g6 [.slice A ((pd1 s).tx i).length c, .bool false, Str [], Str []] 57, mb, blk g22 [Str (((pd1 s).after i).textS)] 9] _
    refine J.de rfl (op_append (i := 4) (xs := strsV ((pd1 s).tx i)) (m2 := blk g22 [Str (((pd1 s).after i).textS)] 9) (ys := [[Str (((pd1 s).after i).textS)]]) rfl rfl rfl Tryd.underlying55 Tryd.underlying55 el9 rfl hr (by simp) ((row_lit (q := True) (strsV [((pd1 s).after i).textS]) rfl (by simp [strsV]) rfl).sl) rfl (by first | omega | (simp only [List.length_append, List.length_cons, List.length_nil, List.length_take, List.length_drop] at *; omega)) (by first | omega | (simp only [List.length_append, List.length_cons, List.length_nil, List.length_take, List.length_drop] at *; omega))) rfl rfl rfl (by simp) ?_
    rintro ⟨A23, c23, m23⟩ h23
    try dsimp only at h23
    change J _ ((23, .slice A23 ((((pd1 s).tx i).length) + 1) c23) :: _) _ [F, blk g2 [.slice none 0 0, .bool false, Str [], Str []] 57, RSb g10 ((pd1 s).after (i + 1)), blk g6 [.slice A ((pd1 s).tx i).length c, .bool false, Str [], Str []] 57, m23, blk g22 [Str (((pd1 s).after i).textS)] 9] _
    rw [← strsV_snoc] at h23
    replace h23 : Row m23 9 1 A23 ((pd1 s).tx (i + 1)).length c23 (strsV ((pd1 s).tx (i + 1))) := by rw [tx_succ, List.length_append]; exact h23
    rw [show ((pd1 s).tx i).length + 1 = ((pd1 s).tx (i + 1)).length by rw [tx_length, tx_length]]
    refine J.dy rfl (op_fieldAddr (j := 0) rfl rfl Tryd.underlying57 rfl Tryd.sizeOf55 rfl) rfl rfl rfl rfl ?_
    refine J.ds rfl (op_store (i := 3) (l := [.slice A ((pd1 s).tx i).length c, .bool false, Str [], Str []]) (vs := [.slice A23 (((pd1 s).tx (i + 1)).length) c23]) rfl rfl rfl rfl rfl Tryd.sizeOf55 rfl (by simp)) rfl rfl rfl (fun _ _ => ?_)
    change J _ _ _ [F, blk g2 [.slice none 0 0, .bool false, Str [], Str []] 57, RSb g10 ((pd1 s).after (i + 1)), blk g6 [.slice A23 (((pd1 s).tx (i + 1)).length) c23, .bool false, Str [], Str []] 57, m23, blk g22 [Str (((pd1 s).after i).textS)] 9] _
    refine J.dnil ?_
    refine J.blk_n ?_
    refine J.then_n (J.k hK9 ?_)
    refine J.keepE [(2, _), (4, _), (5, _), (6, _), (15, _), (16, _)] ⟨rfl, rfl, rfl, rfl, rfl, rfl, trivial⟩ ?_
    refine J.region ?_
    refine J.y ((op_add rfl rfl rfl (by first | omega | (simp only [List.length_append, List.length_cons, List.length_nil, List.length_take, List.length_drop] at *; omega))).as (v' := I ((i + 1 : Nat) : Int)) (congrArg I (by omega))) rfl rfl rfl ?_
    refine J.y (op_move rfl rfl) rfl rfl rfl ?_
    refine J.nil ?_
    refine J.then_n ?_
    exact J.kk (i + 1, A23, c23, m23) (fun η (hη : _ ∧ min (pdn s) 128 - η.1 < min (pdn s) 128 - i) => hI0 η hη.1 hη.2) ⟨⟨by dsimp only; omega, h23⟩, by dsimp only; omega⟩ ⟨rfl, rfl, rfl, rfl, rfl, rfl, trivial⟩ (fun _ h => h.pick [0, 1, 2, 3, 4] (by decide))
  ·
    refine J.exit ?_
    refine J.then_x ?_
    refine J.then_x ?_
    refine J.blk_eq ?_
    refine J.then_n (J.k hK5 ?_)
    refine J.keepE [(2, _), (4, _), (5, _), (6, _)] ⟨rfl, rfl, rfl, rfl, trivial⟩ ?_
    refine J.seq (fun K10 hK10 => ?_)
    obtain rfl : i = min (pdn s) 128 := by omega
    change J _ _ _ [F, blk g2 [.slice none 0 0, .bool false, Str [], Str []] 57, RSb g10 (pd2 s), blk g6 [.slice A (pdb s).length c, .bool false, Str [], Str []] 57, mb] _
    replace hr : Row mb 9 1 A (pdb s).length c (strsV (pdb s)) := hr
    refine J.region ?_
    refine J.y (op_move rfl rfl) rfl rfl rfl ?_
    refine J.e (op_call rfl rfl ent85 (Ct.use1 2 (m' := fun _ : Unit => RSb g10 (pd3 s)) (new := fun _ => []) rfl (fun F' _ => rnum_ct F' g10 (pd2 s) 1 (by decide) (by decide)))) rfl rfl rfl ?_
    intro g27 _
    change J _ _ _ [F, blk g2 [.slice none 0 0, .bool false, Str [], Str []] 57, RSb g10 (pd3 s), blk g6 [.slice A (pdb s).length c, .bool false, Str [], Str []] 57, mb] _
    refine J.y (op_assign rfl rfl) rfl rfl rfl ?_
    refine J.nil ?_
    refine J.then_n (J.k hK10 ?_)
    refine J.keepE [(2, _), (4, _), (5, _), (6, _), (7, _)] ⟨rfl, rfl, rfl, rfl, rfl, trivial⟩ ?_
    refine J.seq (fun K11 hK11 => ?_)
    refine J.region ?_
    refine J.y (op_move rfl rfl) rfl rfl rfl ?_
    refine J.y ((op_eql rfl rfl rfl).as (v' := .bool (decide (pdt s = 1))) (congrArg Value.bool (decide_eq_decide.2 (by omega)))) rfl rfl rfl ?_
    refine J.y (op_move rfl rfl) rfl rfl rfl ?_
    refine J.e (op_call rfl rfl ent97 (Ct.use1 2 (m' := fun _ : Unit => RSb g10 (pd4 s)) (new := fun _ => []) rfl (fun F' _ => rtext_ct F' g10 (pd3 s) ))) rfl rfl rfl ?_
    intro g31 _
    change J _ _ _ [F, blk g2 [.slice none 0 0, .bool false, Str [], Str []] 57, RSb g10 (pd4 s), blk g6 [.slice A (pdb s).length c, .bool false, Str [], Str []] 57, mb] _
    refine J.y (op_move rfl rfl) rfl rfl rfl ?_
    refine J.e (op_call rfl rfl ent97 (Ct.use1 2 (m' := fun _ : Unit => RSb g10 (pd5 s)) (new := fun _ => []) rfl (fun F' _ => rtext_ct F' g10 (pd4 s) ))) rfl rfl rfl ?_
    intro g33 _
    change J _ _ _ [F, blk g2 [.slice none 0 0, .bool false, Str [], Str []] 57, RSb g10 (pd5 s), blk g6 [.slice A (pdb s).length c, .bool false, Str [], Str []] 57, mb] _
    refine J.y (op_fieldAddr (j := 1) rfl rfl Tryd.underlying57 rfl Tryd.sizeOf4 rfl) rfl rfl rfl ?_
    refine J.s (op_store (i := 3) (l := [.slice A (pdb s).length c, .bool false, Str [], Str []]) (vs := [.bool (decide (pdt s = 1))]) rfl rfl rfl rfl rfl Tryd.sizeOf4 rfl (by simp)) rfl rfl (fun _ _ => ?_)
    change J _ _ _ [F, blk g2 [.slice none 0 0, .bool false, Str [], Str []] 57, RSb g10 (pd5 s), blk g6 [.slice A (pdb s).length c, .bool (decide (pdt s = 1)), Str [], Str []] 57, mb] _
    refine J.y (op_fieldAddr (j := 2) rfl rfl Tryd.underlying57 rfl Tryd.sizeOf9 rfl) rfl rfl rfl ?_
    refine J.s (op_store (i := 3) (l := [.slice A (pdb s).length c, .bool (decide (pdt s = 1)), Str [], Str []]) (vs := [Str ((pd3 s).textS)]) rfl rfl rfl rfl rfl Tryd.sizeOf9 rfl (by simp)) rfl rfl (fun _ _ => ?_)
    change J _ _ _ [F, blk g2 [.slice none 0 0, .bool false, Str [], Str []] 57, RSb g10 (pd5 s), blk g6 [.slice A (pdb s).length c, .bool (decide (pdt s = 1)), Str ((pd3 s).textS), Str []] 57, mb] _
    refine J.y (op_fieldAddr (j := 3) rfl rfl Tryd.underlying57 rfl Tryd.sizeOf9 rfl) rfl rfl rfl ?_
    refine J.s (op_store (i := 3) (l := [.slice A (pdb s).length c, .bool (decide (pdt s = 1)), Str ((pd3 s).textS), Str []]) (vs := [Str ((pd4 s).textS)]) rfl rfl rfl rfl rfl Tryd.sizeOf9 rfl (by simp)) rfl rfl (fun _ _ => ?_)
    change J _ _ _ [F, blk g2 [.slice none 0 0, .bool false, Str [], Str []] 57, RSb g10 (pd5 s), blk g6 [.slice A (pdb s).length c, .bool (decide (pdt s = 1)), Str ((pd3 s).textS), Str ((pd4 s).textS)] 57, mb] _
    refine J.nil ?_
    refine J.then_n (J.k hK11 ?_)
    refine J.keepE [(2, _), (4, _), (5, _), (6, _), (7, _)] ⟨rfl, rfl, rfl, rfl, rfl, trivial⟩ ?_
    refine J.seq (fun K12 hK12 => ?_)
    refine J.seq (fun K13 hK13 => ?_)
    refine J.region ?_
    refine J.y (op_move rfl rfl) rfl rfl rfl ?_
    refine J.e (op_call rfl rfl ent86 (Ct.use1 2 (m' := fun _ : Unit => RSb g10 (pd5 s)) (new := fun _ => []) rfl (fun F' _ => end_ct F' g10 (pd5 s) ))) rfl rfl rfl ?_
    intro g38 _
    change J _ _ _ [F, blk g2 [.slice none 0 0, .bool false, Str [], Str []] 57, RSb g10 (pd5 s), blk g6 [.slice A (pdb s).length c, .bool (decide (pdt s = 1)), Str ((pd3 s).textS), Str ((pd4 s).textS)] 57, mb] _
    refine J.y (op_assign rfl rfl) rfl rfl rfl ?_
    refine J.nil ?_
    refine J.then_n (J.k hK13 ?_)
    refine J.keepE [(2, _), (5, _), (6, _), (7, _), (8, _)] ⟨rfl, rfl, rfl, rfl, rfl, trivial⟩ ?_
    refine J.block ?_
    refine J.seq (fun K14 hK14 => ?_)
    refine J.region ?_
    refine J.y (op_move rfl rfl) rfl rfl rfl ?_
    refine J.y (op_neq rfl rfl rfl) rfl rfl rfl ?_
    refine J.y (op_assign rfl rfl) rfl rfl rfl ?_
    refine J.nil ?_
    refine J.then_n (J.k hK14 ?_)
    refine J.keepE [(2, _), (5, _), (6, _), (7, _), (8, _), (39, _)] ⟨rfl, rfl, rfl, rfl, rfl, rfl, trivial⟩ ?_
    refine J.ite rfl (fun h39 => ?_) (fun h39 => ?_)
    ·
      have hE := pdE_last h39
      refine J.seq (fun K15 hK15 => ?_)
      refine J.region ?_
      refine J.y (op_buildStruct (l := []) (vs := []) (places := [(0, 1), (1, 1), (2, 1), (3, 1)]) (r := [.slice none 0 0, .bool false, Str [], Str []]) rfl rfl rfl Tryd.underlying57 Tryd.zeroValue57 (fun _ => by kernel_rfl) rfl) rfl rfl rfl ?_
      refine J.y (op_move rfl rfl) rfl rfl rfl ?_
      refine J.s (op_storeAll (i := 1) (l := [.slice none 0 0, .bool false, Str [], Str []]) (vs := [.slice none 0 0, .bool false, Str [], Str []]) rfl rfl rfl rfl rfl Tryd.sizeOf57 rfl rfl) rfl rfl (fun _ _ => ?_)
      change J _ _ _ [F, blk g2 [.slice none 0 0, .bool false, Str [], Str []] 57, RSb g10 (pd5 s), blk g6 [.slice A (pdb s).length c, .bool (decide (pdt s = 1)), Str ((pd3 s).textS), Str ((pd4 s).textS)] 57, mb] _
      refine J.y (op_assign rfl rfl) rfl rfl rfl ?_
      refine J.nil ?_
      refine J.then_n (J.k hK15 ?_)
      refine J.keepE [(2, _), (3, _)] ⟨rfl, rfl, trivial⟩ ?_
      refine J.ret ?_
      refine J.blk_r ?_
      refine J.then_r ?_
      obtain ⟨q1, q2, q3, q4⟩ := pd_bad (s := s) (by rw [hE]; exact h39)
      refine J.addEmpty [0, 1, 5] [F, blk g2 [.slice none 0 0, .bool false, Str [], Str []] 57, (fun _ => none)] rfl (by decide) ?_
      exact J.done hw0 (fun _ _ h => h) (rv2 rfl (RV.blkA 1 rfl rfl Tryd.isAgg57 Tryd.sizeOf57) rfl) (retOk (none, 0, (fun _ => none)) (by rw [q1, q2, q3, q4, hE]; rfl) (by rw [q1]; exact RowQ.nil) [0, 2] rfl (by decide))
    ·
      refine J.seq (fun K16 hK16 => ?_)
      refine J.region ?_
      refine J.y (op_move rfl rfl) rfl rfl rfl ?_
      refine J.y (op_gtr rfl rfl rfl) rfl rfl rfl ?_
      refine J.y (op_move rfl rfl) rfl rfl rfl ?_
      refine J.split (d := 47) rfl (fun h47 => ?_) (fun h47 => ?_)
      ·
        refine J.no (Wan.is rfl rfl rfl rfl rfl) rfl rfl ?_
        refine J.no (Wan.is rfl rfl rfl rfl rfl) rfl rfl ?_
        refine J.y (op_pickT rfl rfl rfl) rfl rfl rfl ?_
        refine J.y (op_assign rfl rfl) rfl rfl rfl ?_
        refine J.nil ?_
        refine J.then_n (J.k hK16 ?_)
        refine J.keepE [(2, _), (6, _), (44, _)] ⟨rfl, rfl, rfl, trivial⟩ ?_
        refine J.condT rfl rfl ?_
        refine J.seq (fun K17 hK17 => ?_)
        have hE : pdE s = 4 := pdE_4 h39 (by omega)
        refine J.region ?_
        refine J.y (op_buildStruct (l := []) (vs := []) (places := [(0, 1), (1, 1), (2, 1), (3, 1)]) (r := [.slice none 0 0, .bool false, Str [], Str []]) rfl rfl rfl Tryd.underlying57 Tryd.zeroValue57 (fun _ => by kernel_rfl) rfl) rfl rfl rfl ?_
        refine J.s (op_storeAll (i := 1) (l := [.slice none 0 0, .bool false, Str [], Str []]) (vs := [.slice none 0 0, .bool false, Str [], Str []]) rfl rfl rfl rfl rfl Tryd.sizeOf57 rfl rfl) rfl rfl (fun _ _ => ?_)
        change J _ _ _ [F, blk g2 [.slice none 0 0, .bool false, Str [], Str []] 57, RSb g10 (pd5 s), blk g6 [.slice A (pdb s).length c, .bool (decide (pdt s = 1)), Str ((pd3 s).textS), Str ((pd4 s).textS)] 57, mb] _
        refine J.y (op_assign rfl rfl) rfl rfl rfl ?_
        refine J.nil ?_
        refine J.then_n (J.k hK17 ?_)
        refine J.keepE [(2, _), (3, _)] ⟨rfl, rfl, trivial⟩ ?_
        refine J.ret ?_
        refine J.blk_r ?_
        refine J.then_r ?_
        obtain ⟨q1, q2, q3, q4⟩ := pd_bad (s := s) (by rw [hE]; decide)
        refine J.addEmpty [0, 1, 5] [F, blk g2 [.slice none 0 0, .bool false, Str [], Str []] 57, (fun _ => none)] rfl (by decide) ?_
        exact J.done hw0 (fun _ _ h => h) (rv2 rfl (RV.blkA 1 rfl rfl Tryd.isAgg57 Tryd.sizeOf57) rfl) (retOk (none, 0, (fun _ => none)) (by rw [q1, q2, q3, q4, hE]; rfl) (by rw [q1]; exact RowQ.nil) [0, 2] rfl (by decide))
      ·
        refine J.yg (Wan.is rfl rfl rfl rfl rfl) (op_move rfl rfl) rfl rfl ?_
        refine J.yg (Wan.is rfl rfl rfl rfl rfl) (op_gtr rfl rfl rfl) rfl rfl ?_
        refine J.y (op_pickF rfl rfl rfl) rfl rfl rfl ?_
        refine J.y (op_assign rfl rfl) rfl rfl rfl ?_
        refine J.nil ?_
        refine J.then_n (J.k hK16 ?_)
        refine J.keepE [(2, _), (6, _), (44, _)] ⟨rfl, rfl, rfl, trivial⟩ ?_
        refine J.ite rfl (fun h44 => ?_) (fun h44 => ?_)
        ·
          refine J.seq (fun K18 hK18 => ?_)
          have hE : pdE s = 4 := pdE_4 h39 (by omega)
          refine J.region ?_
          refine J.y (op_buildStruct (l := []) (vs := []) (places := [(0, 1), (1, 1), (2, 1), (3, 1)]) (r := [.slice none 0 0, .bool false, Str [], Str []]) rfl rfl rfl Tryd.underlying57 Tryd.zeroValue57 (fun _ => by kernel_rfl) rfl) rfl rfl rfl ?_
          refine J.s (op_storeAll (i := 1) (l := [.slice none 0 0, .bool false, Str [], Str []]) (vs := [.slice none 0 0, .bool false, Str [], Str []]) rfl rfl rfl rfl rfl Tryd.sizeOf57 rfl rfl) rfl rfl (fun _ _ => ?_)
          change J _ _ _ [F, blk g2 [.slice none 0 0, .bool false, Str [], Str []] 57, RSb g10 (pd5 s), blk g6 [.slice A (pdb s).length c, .bool (decide (pdt s = 1)), Str ((pd3 s).textS), Str ((pd4 s).textS)] 57, mb] _
          refine J.y (op_assign rfl rfl) rfl rfl rfl ?_
          refine J.nil ?_
          refine J.then_n (J.k hK18 ?_)
          refine J.keepE [(2, _), (3, _)] ⟨rfl, rfl, trivial⟩ ?_
          refine J.ret ?_
          refine J.blk_r ?_
          refine J.then_r ?_
          obtain ⟨q1, q2, q3, q4⟩ := pd_bad (s := s) (by rw [hE]; decide)
          refine J.addEmpty [0, 1, 5] [F, blk g2 [.slice none 0 0, .bool false, Str [], Str []] 57, (fun _ => none)] rfl (by decide) ?_
          exact J.done hw0 (fun _ _ h => h) (rv2 rfl (RV.blkA 1 rfl rfl Tryd.isAgg57 Tryd.sizeOf57) rfl) (retOk (none, 0, (fun _ => none)) (by rw [q1, q2, q3, q4, hE]; rfl) (by rw [q1]; exact RowQ.nil) [0, 2] rfl (by decide))
        ·
          refine J.skip ?_
          refine J.blk_n ?_
          refine J.then_n (J.k hK12 ?_)
          refine J.keepE [(2, _), (6, _)] ⟨rfl, rfl, trivial⟩ ?_
          refine J.seq (fun K19 hK19 => ?_)
          have hE : pdE s = 0 := pdE_0 h39 (by omega)
          obtain ⟨q1, q2, q3, q4⟩ := pd_good hE
          refine J.region ?_
          refine J.y (op_loadBA 3 rfl rfl rfl Tryd.isAgg57 Tryd.sizeOf57 rfl) rfl rfl rfl ?_
          refine J.s (op_storeAll (i := 1) (l := [.slice none 0 0, .bool false, Str [], Str []]) (vs := [.slice A (pdb s).length c, .bool (decide (pdt s = 1)), Str ((pd3 s).textS), Str ((pd4 s).textS)]) rfl rfl rfl rfl rfl Tryd.sizeOf57 rfl rfl) rfl rfl (fun _ _ => ?_)
          change J _ _ _ [F, blk g2 [.slice A (pdb s).length c, .bool (decide (pdt s = 1)), Str ((pd3 s).textS), Str ((pd4 s).textS)] 57, RSb g10 (pd5 s), blk g6 [.slice A (pdb s).length c, .bool (decide (pdt s = 1)), Str ((pd3 s).textS), Str ((pd4 s).textS)] 57, mb] _
          refine J.y (op_assign rfl rfl) rfl rfl rfl ?_
          refine J.nil ?_
          refine J.then_n (J.k hK19 ?_)
          refine J.keepE [(2, _), (3, _)] ⟨rfl, rfl, trivial⟩ ?_
          refine J.ret ?_
          exact J.done hw0 (fun _ _ h => h) (rv2 rfl (RV.blkA 1 rfl rfl Tryd.isAgg57 Tryd.sizeOf57) rfl) (retOk (A, c, mb) (by rw [q1, q2, q3, q4, hE]; try rfl) (by rw [q1]; exact hr) [0, 4] rfl (by decide))

end Go.Proofs.YtnkfapecbmmpeaaDoor
