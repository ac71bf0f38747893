/- A part of the proof: contracts of functions of the program, each for every state of the heaps that it names. -/
import Derived.Test.YtpcffgkmpmcobaaDoorSmt7
import Derived.Test.YtpcffgkmpmcobaaDoorFwR
set_option linter.unusedSimpArgs false
set_option linter.unusedVariables false
namespace Go.Proofs.YtpcffgkmpmcobaaDoor
open Go Go.Fw
set_option maxRecDepth 100000
set_option maxHeartbeats 1000000
theorem ent46 : Enters Tryd.prog 46 := Enters.of Tryd.func46 rfl (by kernel_rfl)
theorem ent47 : Enters Tryd.prog 47 := Enters.of Tryd.func47 rfl (by kernel_rfl)

theorem keys_at {kv : List Sm.PR} (h : Sm.Once kv) {i : Nat} (h1 : 1 ≤ i) (hi : i < (Sm.keysS kv).length) : (Sm.keysS kv).getD (i - 1) [] < (Sm.keysS kv).getD i [] := by
  have := List.pairwise_iff_getElem.1 (Sm.keysS_lt h) (i - 1) i (by omega) hi (by omega)
  rw [List.getD_eq_getElem?_getD, List.getElem?_eq_getElem (show i - 1 < (Sm.keysS kv).length by omega), List.getD_eq_getElem?_getD, List.getElem?_eq_getElem hi]
  exact this
theorem getP_snoc : ∀ (l : List Sm.PR) (p : Sm.PR) (k : List UInt8), p.1 ≠ k → Sm.getP (l ++ [p]) k = Sm.getP l k
  | [], p, k, h => by show (if p.1 = k then _ else _) = _; rw [if_neg h]
  | q :: r, p, k, h => by
    show (if q.1 = k then some q.2 else Sm.getP (r ++ [p]) k) = _
    rw [getP_snoc r p k h, Sm.getP]
theorem look_take {m : List Pr} {kv : List Sm.PR} (hp : Pairs m kv) {j : Nat} (hj : j < m.length) (k : List UInt8) :
    Sm.getP ((m.take (j + 1)).map toP) k = if (m.getD j noPr).k = k then some (m.getD j noPr).v else Sm.getP ((m.take j).map toP) k := by
  have e : m.getD j noPr = m[j] := by rw [List.getD_eq_getElem?_getD, List.getElem?_eq_getElem hj]; rfl
  rw [e]
  by_cases h : m[j].k = k
  · rw [if_pos h]
    have ho : Sm.Once ((m.take (j + 1)).map toP) := hp.once.sublist ((List.take_sublist _ _).map _)
    have hmem : toP m[j] ∈ (m.take (j + 1)).map toP := List.mem_map.2 ⟨m[j], List.mem_take_iff_getElem.2 ⟨j, by omega, rfl⟩, rfl⟩
    have := Sm.getP_mem ho hmem
    rw [show (toP m[j]).1 = k from h] at this
    exact this
  · rw [if_neg h, List.take_succ_eq_append_getElem hj, List.map_append]
    exact getP_snoc _ (toP m[j]) k h

theorem smtRoots_ct (F : Hp) (hK : Cells F ⟨4, 0, none⟩ (Sha.K.map W32)) (A0 : Option Addr) (n0 c0 : Nat) (l0 : List Pu) (sl0 : Sl F 3 A0 n0 c0 (putsV l0)) (a b : UInt8) : Ct Tryd.prog 10 [.slice A0 n0 c0, B8 (a), B8 (b)] [F] (fun _ : Unit => .bool true) (fun _ => True) (fun _ => [F]) := by
  refine Ct.walk Tryd.func10 rfl Tryd.ntmps10 rfl (fun w0 hw0 => ?_)
  change J _ [(0, _), (1, _), (2, _)] _ _ _
  refine J.seq (fun K1 hK1 => ?_)
  refine J.region ?_
  refine J.y (op_assign rfl rfl) rfl rfl rfl ?_
  refine J.nil ?_
  refine J.then_n (J.k hK1 ?_)
  refine J.keepE [(0, _), (1, _), (2, _)] ⟨rfl, rfl, rfl, trivial⟩ ?_
  refine J.seq (fun K2 hK2 => ?_)
  refine J.seq (fun K3 hK3 => ?_)
  refine J.region ?_
  refine J.e (op_call rfl rfl ent46 (Ct.use0 (fun F' hF => speaks13_ct F' (hK.mono (hF F (by simp)))))) rfl rfl rfl ?_
  intro g18 _
  refine J.y (op_not rfl rfl) rfl rfl rfl ?_
  refine J.nil ?_
  refine J.then_n (J.k hK3 ?_)
  refine J.keepE [(0, _), (1, _), (2, _), (19, _)] ⟨rfl, rfl, rfl, rfl, trivial⟩ ?_
  refine J.condF rfl rfl ?_
  refine J.skip ?_
  refine J.then_n (J.k hK2 ?_)
  refine J.keepE [(0, _), (1, _), (2, _)] ⟨rfl, rfl, rfl, trivial⟩ ?_
  refine J.seq (fun K4 hK4 => ?_)
  refine J.region ?_
  refine J.y (op_move rfl rfl) rfl rfl rfl ?_
  refine J.e (op_call rfl rfl ent47 (Ct.use (new := fun x : List Pr × List Sm.PR × Option Addr × Nat × Hp × Nat × Hp => [x.2.2.2.2.1, x.2.2.2.2.2.2]) (fun F' hF => both_ct F' A0 n0 c0 l0 (sl0.mono (hF F (by simp)))))) rfl rfl rfl ?_
  rintro ⟨m, kv, A, c, mr, g, mo⟩ ⟨hp, hm, hr, ht⟩
  change J _ ((22, .tuple #[.slice A m.length c, Ptr g]) :: _) _ [F, mr, mo] _
  refine J.y (op_move rfl rfl) rfl rfl rfl ?_
  refine J.y (op_extract (v := .slice A m.length c) rfl rfl rfl) rfl rfl rfl ?_
  refine J.y (op_extract (v := Ptr g) rfl rfl rfl) rfl rfl rfl ?_
  refine J.y (op_assign rfl rfl) rfl rfl rfl ?_
  refine J.y (op_assign rfl rfl) rfl rfl rfl ?_
  refine J.nil ?_
  refine J.then_n (J.k hK4 ?_)
  refine J.keepE [(1, _), (2, _), (7, _), (8, _)] ⟨rfl, rfl, rfl, rfl, trivial⟩ ?_
  refine J.seq (fun K5 hK5 => ?_)
  refine J.seq (fun K6 hK6 => ?_)
  dsimp only at hp hm hr ht
  have hfi := hp.fine
  have hln := hp.len
  have hwm : Sm.WF (128 - 0) (m.map toP) := hp.wf
  have hvm := hp.small
  have hkl := Sm.keysS_len kv
  refine J.region ?_
  refine J.y (op_move rfl rfl) rfl rfl rfl ?_
  refine J.e (op_call rfl rfl ent48 (Ct.use0 (fun F' hF => troot_ct F' (hK.mono (hF F (by simp))) g kv (ht.at.mono (hF mo (by simp))) (by assumption)))) rfl rfl rfl ?_
  intro g26 _
  refine J.y (op_move rfl rfl) rfl rfl rfl ?_
  refine J.e (op_call rfl rfl ent49 (Ct.use0 (fun F' hF => rnode_ct F' A m.length c m (hr.sl.mono (hF mr (by simp))) (by omega) 0 (by omega) (by assumption) (by assumption)))) rfl rfl rfl ?_
  intro g28 _
  refine J.y ((op_sne rfl rfl rfl).as (v' := .bool false) (congrArg Value.bool (decide_eq_false (fun h => h hp.root)))) rfl rfl rfl ?_
  refine J.y (op_move rfl rfl) rfl rfl rfl ?_
  refine J.yg (Wan.is rfl rfl rfl rfl rfl) (op_move rfl rfl) rfl rfl ?_
  refine J.eg (Wan.is rfl rfl rfl rfl rfl) (op_call rfl rfl ent50 (Ct.use0 (fun F' hF => tlen_ct F' g kv (ht.at.mono (hF mo (by simp)))))) rfl rfl ?_
  intro g32 _
  refine J.yg (Wan.is rfl rfl rfl rfl rfl) (op_move rfl rfl) rfl rfl ?_
  refine J.yg (Wan.is rfl rfl rfl rfl rfl) (op_len Tryd.underlying75 rfl rfl) rfl rfl ?_
  refine J.yg (Wan.is rfl rfl rfl rfl rfl) ((op_neq rfl rfl rfl).as (v' := .bool false) (congrArg Value.bool (decide_eq_false (by omega)))) rfl rfl ?_
  refine J.y (op_pickF rfl rfl rfl) rfl rfl rfl ?_
  refine J.nil ?_
  refine J.then_n (J.k hK6 ?_)
  refine J.keepE [(1, _), (2, _), (7, _), (8, _), (36, _)] ⟨rfl, rfl, rfl, rfl, rfl, trivial⟩ ?_
  refine J.condF rfl rfl ?_
  refine J.skip ?_
  refine J.then_n (J.k hK5 ?_)
  refine J.keepE [(1, _), (2, _), (7, _), (8, _)] ⟨rfl, rfl, rfl, rfl, trivial⟩ ?_
  refine J.seq (fun K7 hK7 => ?_)
  refine J.region ?_
  refine J.y (op_move rfl rfl) rfl rfl rfl ?_
  refine J.e (op_call rfl rfl ent51 (Ct.use (new := fun x : Option Addr × Nat × Hp => [x.2.2]) (fun F' hF => tkeys_ct F' g kv (ht.at.mono (hF mo (by simp))) (by omega)))) rfl rfl rfl ?_
  rintro ⟨A38, c38, m38⟩ h38
  try dsimp only at h38
  change J _ ((38, .slice A38 (Sm.keysS kv).length c38) :: _) _ [F, mr, mo, m38] _
  refine J.y (op_assign rfl rfl) rfl rfl rfl ?_
  refine J.nil ?_
  refine J.then_n (J.k hK7 ?_)
  refine J.keepE [(1, _), (2, _), (7, _), (8, _), (9, _)] ⟨rfl, rfl, rfl, rfl, rfl, trivial⟩ ?_
  refine J.seq (fun K8 hK8 => ?_)
  refine J.seq (fun K9 hK9 => ?_)
  refine J.region ?_
  refine J.y (op_assign rfl rfl) rfl rfl rfl ?_
  refine J.nil ?_
  refine J.then_n (J.k hK9 ?_)
  refine J.keepE [(1, _), (2, _), (7, _), (8, _), (9, _), (10, _)] ⟨rfl, rfl, rfl, rfl, rfl, rfl, trivial⟩ ?_
  refine J.block ?_
  refine J.loop (X := Nat) (fun ζ => [(1, B8 (a)), (2, B8 (b)), (7, .slice A m.length c), (8, Ptr g), (9, .slice A38 ((Sm.keysS kv).length) c38), (10, I ((ζ : Nat) : Int))]) (fun ζ => [F, mr, mo, m38]) (fun ζ => 1 ≤ ζ) (fun ζ => (Sm.keysS kv).length - ζ) 1 (Nat.le_refl _) ⟨rfl, rfl, rfl, rfl, rfl, rfl, trivial⟩ (fun _ h => h) ?_
  rintro i hi1 I0 hI0
  refine J.seq (fun K10 hK10 => ?_)
  refine J.seq (fun K11 hK11 => ?_)
  refine J.region ?_
  refine J.y (op_move rfl rfl) rfl rfl rfl ?_
  refine J.y (op_move rfl rfl) rfl rfl rfl ?_
  refine J.y (op_len Tryd.underlying36 rfl rfl) rfl rfl rfl ?_
  refine J.y (op_lss rfl rfl rfl) rfl rfl rfl ?_
  refine J.nil ?_
  refine J.then_n (J.k hK11 ?_)
  refine J.keepE [(1, _), (2, _), (7, _), (8, _), (9, _), (10, _), (42, _)] ⟨rfl, rfl, rfl, rfl, rfl, rfl, rfl, trivial⟩ ?_
  refine J.ite rfl (fun h42 => ?_) (fun h42 => ?_)
  ·
    refine J.skip ?_
    refine J.then_n (J.k hK10 ?_)
    refine J.keepE [(1, _), (2, _), (7, _), (8, _), (9, _), (10, _)] ⟨rfl, rfl, rfl, rfl, rfl, rfl, trivial⟩ ?_
    refine J.seq (fun K12 hK12 => ?_)
    refine J.block ?_
    refine J.seq (fun K13 hK13 => ?_)
    refine J.draw [F, mr, mo, m38] [] (.y 0 (.y 1 (.y 2 (.y 3 (.y 4 (.y 5 (.y 6 (.y 7 (.y 8 (.y 9 .nil)))))))))) Tryd.wide (by decide +kernel) (by simp) ?_
    refine J.dy rfl (op_move rfl rfl) rfl rfl rfl rfl ?_
    refine J.dy rfl (op_move rfl rfl) rfl rfl rfl rfl ?_
    refine J.dy rfl ((op_sub rfl rfl rfl (by first | omega | (refine ⟨?_, ?_⟩ <;> omega))).as (v' := I ((i - 1 : Nat) : Int)) (congrArg I (by omega))) rfl rfl rfl rfl ?_
    refine J.dy rfl (op_indexAddr (i := i - 1) rfl rfl rfl Tryd.underlying36 Tryd.sizeOf9 h38.sl (by first | omega | (simp only [List.length_append, List.length_cons, List.length_nil, List.length_take, List.length_drop] at *; omega))) rfl rfl rfl rfl ?_
    refine J.dy rfl (op_load rfl rfl Tryd.isAgg9 (m := m38) (by simp) (h38.sl.elem (strsV_get (getSome [] (by first | omega | (simp only [List.length_append, List.length_cons, List.length_nil, List.length_take, List.length_drop] at *; omega)))))) rfl rfl rfl rfl ?_
    refine J.dy rfl (op_move rfl rfl) rfl rfl rfl rfl ?_
    refine J.dy rfl (op_move rfl rfl) rfl rfl rfl rfl ?_
    refine J.dy rfl (op_indexAddr (i := i) rfl rfl rfl Tryd.underlying36 Tryd.sizeOf9 h38.sl (by first | omega | (simp only [List.length_append, List.length_cons, List.length_nil, List.length_take, List.length_drop] at *; omega))) rfl rfl rfl rfl ?_
    refine J.dy rfl (op_load rfl rfl Tryd.isAgg9 (m := m38) (by simp) (h38.sl.elem (strsV_get (getSome [] (by first | omega | (simp only [List.length_append, List.length_cons, List.length_nil, List.length_take, List.length_drop] at *; omega)))))) rfl rfl rfl rfl ?_
    refine J.dy rfl ((op_sgeq rfl rfl rfl).as (v' := .bool false) (congrArg Value.bool (decide_eq_false (fun h => h (keys_at hfi.once hi1 (by omega)))))) rfl rfl rfl rfl ?_
    refine J.dnil ?_
    refine J.then_n (J.k hK13 ?_)
    refine J.keepE [(1, _), (2, _), (7, _), (8, _), (9, _), (10, _), (54, _)] ⟨rfl, rfl, rfl, rfl, rfl, rfl, rfl, trivial⟩ ?_
    refine J.condF rfl rfl ?_
    refine J.skip ?_
    refine J.blk_n ?_
    refine J.then_n (J.k hK12 ?_)
    refine J.keepE [(1, _), (2, _), (7, _), (8, _), (9, _), (10, _)] ⟨rfl, rfl, rfl, rfl, rfl, rfl, trivial⟩ ?_
    refine J.region ?_
    refine J.y (op_move rfl rfl) rfl rfl rfl ?_
    refine J.y ((op_add rfl rfl rfl (by first | omega | (simp only [List.length_append, List.length_cons, List.length_nil, List.length_take, List.length_drop] at *; omega))).as (v' := I ((i + 1 : Nat) : Int)) (congrArg I (by omega))) rfl rfl rfl ?_
    refine J.y (op_assign rfl rfl) rfl rfl rfl ?_
    refine J.nil ?_
    refine J.then_n ?_
    exact J.kk (i + 1) (fun η (hη : _ ∧ (Sm.keysS kv).length - η < (Sm.keysS kv).length - i) => hI0 η hη.1 hη.2) ⟨(by omega), by first | omega | (dsimp only; omega)⟩ ⟨rfl, rfl, rfl, rfl, rfl, rfl, trivial⟩ (fun _ h => h)
  ·
    refine J.exit ?_
    refine J.then_x ?_
    refine J.then_x ?_
    refine J.blk_eq ?_
    refine J.then_n (J.k hK8 ?_)
    refine J.keepE [(1, _), (2, _), (7, _), (8, _), (9, _)] ⟨rfl, rfl, rfl, rfl, rfl, trivial⟩ ?_
    refine J.seq (fun K14 hK14 => ?_)
    refine J.region ?_
    refine J.y (op_assign rfl rfl) rfl rfl rfl ?_
    refine J.y (op_assign rfl rfl) rfl rfl rfl ?_
    refine J.nil ?_
    refine J.then_n (J.k hK14 ?_)
    refine J.keepE [(1, _), (2, _), (7, _), (8, _), (9, _), (11, _), (12, _)] ⟨rfl, rfl, rfl, rfl, rfl, rfl, rfl, trivial⟩ ?_
    refine J.seq (fun K15 hK15 => ?_)
    refine J.seq (fun K16 hK16 => ?_)
    refine J.region ?_
    refine J.y (op_assign rfl rfl) rfl rfl rfl ?_
    refine J.nil ?_
    refine J.then_n (J.k hK16 ?_)
    refine J.keepE [(1, _), (2, _), (7, _), (8, _), (9, _), (11, _), (12, _), (13, _)] ⟨rfl, rfl, rfl, rfl, rfl, rfl, rfl, rfl, trivial⟩ ?_
    refine J.block ?_
    refine J.loop (X := Nat × List UInt8 × Bool) (fun ζ => [(1, B8 (a)), (2, B8 (b)), (7, .slice A m.length c), (8, Ptr g), (9, .slice A38 ((Sm.keysS kv).length) c38), (11, Str (ζ.2.1)), (12, .bool (ζ.2.2)), (13, I ((ζ.1 : Nat) : Int))]) (fun ζ => [F, mr, mo, m38]) (fun ζ => ζ.1 ≤ m.length ∧ ζ.2.1 = (Sm.getP ((m.take ζ.1).map toP) (keyK a b)).getD [] ∧ ζ.2.2 = (Sm.getP ((m.take ζ.1).map toP) (keyK a b)).isSome) (fun ζ => m.length - ζ.1) (0, [], false) (⟨Nat.zero_le _, rfl, rfl⟩) ⟨rfl, rfl, rfl, rfl, rfl, rfl, rfl, rfl, trivial⟩ (fun _ h => h) ?_
    rintro ⟨j, w, t⟩ ⟨hj, hw, hti⟩ I2 hI2
    dsimp only at hj hw hti ⊢
    refine J.seq (fun K17 hK17 => ?_)
    refine J.seq (fun K18 hK18 => ?_)
    refine J.region ?_
    refine J.y (op_move rfl rfl) rfl rfl rfl ?_
    refine J.y (op_move rfl rfl) rfl rfl rfl ?_
    refine J.y (op_len Tryd.underlying75 rfl rfl) rfl rfl rfl ?_
    refine J.y (op_lss rfl rfl rfl) rfl rfl rfl ?_
    refine J.nil ?_
    refine J.then_n (J.k hK18 ?_)
    refine J.keepE [(1, _), (2, _), (7, _), (8, _), (9, _), (11, _), (12, _), (13, _), (58, _)] ⟨rfl, rfl, rfl, rfl, rfl, rfl, rfl, rfl, rfl, trivial⟩ ?_
    refine J.ite rfl (fun h58 => ?_) (fun h58 => ?_)
    ·
      refine J.skip ?_
      refine J.then_n (J.k hK17 ?_)
      refine J.keepE [(1, _), (2, _), (7, _), (8, _), (9, _), (11, _), (12, _), (13, _)] ⟨rfl, rfl, rfl, rfl, rfl, rfl, rfl, rfl, trivial⟩ ?_
      refine J.seq (fun K19 hK19 => ?_)
      refine J.block ?_
      refine J.seq (fun K20 hK20 => ?_)
      refine J.region ?_
      refine J.y (op_move rfl rfl) rfl rfl rfl ?_
      refine J.y (op_move rfl rfl) rfl rfl rfl ?_
      refine J.y (op_move rfl rfl) rfl rfl rfl ?_
      refine J.y (op_indexAddr (i := j) rfl rfl rfl Tryd.underlying75 Tryd.sizeOf84 hr.sl (by first | omega | (simp only [List.length_append, List.length_cons, List.length_nil, List.length_take, List.length_drop] at *; omega))) rfl rfl rfl ?_
      refine J.y (op_fieldAddrE (off := 0) rfl rfl Tryd.underlying84 rfl Tryd.sizeOf9 hr.sl (by first | omega | (simp only [List.length_append, List.length_cons, List.length_nil, List.length_take, List.length_drop] at *; omega)) rfl) rfl rfl rfl ?_
      refine J.y (op_load (v := Str ((m.getD j noPr).k)) rfl rfl Tryd.isAgg9 (m := mr) (by simp) (hr.sl.part (prsV_get (by first | omega | (simp only [List.length_append, List.length_cons, List.length_nil, List.length_take, List.length_drop] at *; omega))) 0 1)) rfl rfl rfl ?_
      refine J.e (op_call rfl rfl ent52 (Ct.use0 (fun F' hF => tget_ct F' g kv (ht.at.mono (hF mo (by simp))) ((m.getD j noPr).k)))) rfl rfl rfl ?_
      intro g68 _
      refine J.y (op_move rfl rfl) rfl rfl rfl ?_
      refine J.y (op_extract (v := Str ((Sm.getP kv ((m.getD j noPr).k)).getD [])) rfl rfl rfl) rfl rfl rfl ?_
      refine J.y (op_extract (v := .bool ((Sm.getP kv ((m.getD j noPr).k)).isSome)) rfl rfl rfl) rfl rfl rfl ?_
      refine J.y (op_assign rfl rfl) rfl rfl rfl ?_
      refine J.y (op_assign rfl rfl) rfl rfl rfl ?_
      refine J.nil ?_
      refine J.then_n (J.k hK20 ?_)
      refine J.keepE [(1, _), (2, _), (7, _), (8, _), (9, _), (11, _), (12, _), (13, _), (14, _), (15, _)] ⟨rfl, rfl, rfl, rfl, rfl, rfl, rfl, rfl, rfl, rfl, trivial⟩ ?_
      refine J.seq (fun K21 hK21 => ?_)
      refine J.seq (fun K22 hK22 => ?_)
      rw [hp.get (j := j) (by omega)]
      refine J.region ?_
      refine J.y (op_move rfl rfl) rfl rfl rfl ?_
      refine J.y (op_not rfl rfl) rfl rfl rfl ?_
      refine J.y (op_move rfl rfl) rfl rfl rfl ?_
      refine J.yg (Wan.is rfl rfl rfl rfl rfl) (op_move rfl rfl) rfl rfl ?_
      refine J.yg (Wan.is rfl rfl rfl rfl rfl) (op_move rfl rfl) rfl rfl ?_
      refine J.yg (Wan.is rfl rfl rfl rfl rfl) (op_move rfl rfl) rfl rfl ?_
      refine J.yg (Wan.is rfl rfl rfl rfl rfl) (op_indexAddr (i := j) rfl rfl rfl Tryd.underlying75 Tryd.sizeOf84 hr.sl (by first | omega | (simp only [List.length_append, List.length_cons, List.length_nil, List.length_take, List.length_drop] at *; omega))) rfl rfl ?_
      refine J.yg (Wan.is rfl rfl rfl rfl rfl) (op_fieldAddrE (off := 1) rfl rfl Tryd.underlying84 rfl Tryd.sizeOf9 hr.sl (by first | omega | (simp only [List.length_append, List.length_cons, List.length_nil, List.length_take, List.length_drop] at *; omega)) rfl) rfl rfl ?_
      refine J.yg (Wan.is rfl rfl rfl rfl rfl) (op_load (v := Str ((m.getD j noPr).v)) rfl rfl Tryd.isAgg9 (m := mr) (by simp) (hr.sl.part (prsV_get (by first | omega | (simp only [List.length_append, List.length_cons, List.length_nil, List.length_take, List.length_drop] at *; omega))) 1 1)) rfl rfl ?_
      refine J.yg (Wan.is rfl rfl rfl rfl rfl) ((op_sne rfl rfl rfl).as (v' := .bool false) (congrArg Value.bool (decide_eq_false (fun h => h rfl)))) rfl rfl ?_
      refine J.y (op_pickF rfl rfl rfl) rfl rfl rfl ?_
      refine J.nil ?_
      refine J.then_n (J.k hK22 ?_)
      refine J.keepE [(1, _), (2, _), (7, _), (8, _), (9, _), (11, _), (12, _), (13, _), (14, _), (81, _)] ⟨rfl, rfl, rfl, rfl, rfl, rfl, rfl, rfl, rfl, rfl, trivial⟩ ?_
      refine J.condF rfl rfl ?_
      refine J.skip ?_
      refine J.then_n (J.k hK21 ?_)
      refine J.keepE [(1, _), (2, _), (7, _), (8, _), (9, _), (11, _), (12, _), (13, _), (14, _)] ⟨rfl, rfl, rfl, rfl, rfl, rfl, rfl, rfl, rfl, trivial⟩ ?_
      refine J.seq (fun K23 hK23 => ?_)
      refine J.draw [F, mr, mo, m38] [] (.y 0 (.y 1 (.y 2 (.y 3 (.y 4 (.y 5 (.y 6 (.e 7 (.y 8 .nil))))))))) Tryd.wide (by decide +kernel) (by simp) ?_
      refine J.dy rfl (op_move rfl rfl) rfl rfl rfl rfl ?_
      refine J.dy rfl (op_move rfl rfl) rfl rfl rfl rfl ?_
      refine J.dy rfl (op_indexAddr (i := j) rfl rfl rfl Tryd.underlying75 Tryd.sizeOf84 hr.sl (by first | omega | (simp only [List.length_append, List.length_cons, List.length_nil, List.length_take, List.length_drop] at *; omega))) rfl rfl rfl rfl ?_
      refine J.dy rfl (op_fieldAddrE (off := 0) rfl rfl Tryd.underlying84 rfl Tryd.sizeOf9 hr.sl (by first | omega | (simp only [List.length_append, List.length_cons, List.length_nil, List.length_take, List.length_drop] at *; omega)) rfl) rfl rfl rfl rfl ?_
      refine J.dy rfl (op_load (v := Str ((m.getD j noPr).k)) rfl rfl Tryd.isAgg9 (m := mr) (by simp) (hr.sl.part (prsV_get (by first | omega | (simp only [List.length_append, List.length_cons, List.length_nil, List.length_take, List.length_drop] at *; omega))) 0 1)) rfl rfl rfl rfl ?_
      refine J.dy rfl (op_move rfl rfl) rfl rfl rfl rfl ?_
      refine J.dy rfl (op_move rfl rfl) rfl rfl rfl rfl ?_
      refine J.de rfl (op_call rfl rfl ent53 (Ct.use0 (fun F' hF => key13_ct F' a b))) rfl rfl rfl (by simp) ?_
      intro g89 _
      refine J.dy rfl (op_seq rfl rfl rfl) rfl rfl rfl rfl ?_
      refine J.dnil ?_
      refine J.then_n (J.k hK23 ?_)
      refine J.keepE [(1, _), (2, _), (7, _), (8, _), (9, _), (11, _), (12, _), (13, _), (14, _), (90, _)] ⟨rfl, rfl, rfl, rfl, rfl, rfl, rfl, rfl, rfl, rfl, trivial⟩ ?_
      refine J.ite rfl (fun h90 => ?_) (fun h90 => ?_)
      ·
        have hlk := look_take hp (j := j) (by omega) (keyK a b)
        rw [if_pos h90] at hlk
        refine J.region ?_
        refine J.y (op_move rfl rfl) rfl rfl rfl ?_
        refine J.y (op_assign rfl rfl) rfl rfl rfl ?_
        refine J.y (op_assign rfl rfl) rfl rfl rfl ?_
        refine J.nil ?_
        refine J.blk_n ?_
        refine J.then_n (J.k hK19 ?_)
        refine J.keepE [(1, _), (2, _), (7, _), (8, _), (9, _), (11, _), (12, _), (13, _)] ⟨rfl, rfl, rfl, rfl, rfl, rfl, rfl, rfl, trivial⟩ ?_
        refine J.region ?_
        refine J.y (op_move rfl rfl) rfl rfl rfl ?_
        refine J.y ((op_add rfl rfl rfl (by first | omega | (simp only [List.length_append, List.length_cons, List.length_nil, List.length_take, List.length_drop] at *; omega))).as (v' := I ((j + 1 : Nat) : Int)) (congrArg I (by omega))) rfl rfl rfl ?_
        refine J.y (op_assign rfl rfl) rfl rfl rfl ?_
        refine J.nil ?_
        refine J.then_n ?_
        exact J.kk (j + 1, (m.getD j noPr).v, true) (fun η (hη : _ ∧ m.length - η.1 < m.length - j) => hI2 η hη.1 hη.2) ⟨⟨by dsimp only; omega, by dsimp only; rw [hlk]; rfl, by dsimp only; rw [hlk]; rfl⟩, by first | omega | (dsimp only; omega)⟩ ⟨rfl, rfl, rfl, rfl, rfl, rfl, rfl, rfl, trivial⟩ (fun _ h => h)
      ·
        have hlk := look_take hp (j := j) (by omega) (keyK a b)
        rw [if_neg h90] at hlk
        refine J.skip ?_
        refine J.blk_n ?_
        refine J.then_n (J.k hK19 ?_)
        refine J.keepE [(1, _), (2, _), (7, _), (8, _), (9, _), (11, _), (12, _), (13, _)] ⟨rfl, rfl, rfl, rfl, rfl, rfl, rfl, rfl, trivial⟩ ?_
        refine J.region ?_
        refine J.y (op_move rfl rfl) rfl rfl rfl ?_
        refine J.y ((op_add rfl rfl rfl (by first | omega | (simp only [List.length_append, List.length_cons, List.length_nil, List.length_take, List.length_drop] at *; omega))).as (v' := I ((j + 1 : Nat) : Int)) (congrArg I (by omega))) rfl rfl rfl ?_
        refine J.y (op_assign rfl rfl) rfl rfl rfl ?_
        refine J.nil ?_
        refine J.then_n ?_
        exact J.kk (j + 1, w, t) (fun η (hη : _ ∧ m.length - η.1 < m.length - j) => hI2 η hη.1 hη.2) ⟨⟨by dsimp only; omega, by dsimp only; rw [hlk]; exact hw, by dsimp only; rw [hlk]; exact hti⟩, by first | omega | (dsimp only; omega)⟩ ⟨rfl, rfl, rfl, rfl, rfl, rfl, rfl, rfl, trivial⟩ (fun _ h => h)
    ·
      refine J.exit ?_
      refine J.then_x ?_
      refine J.then_x ?_
      refine J.blk_eq ?_
      refine J.then_n (J.k hK15 ?_)
      refine J.keepE [(1, _), (2, _), (7, _), (8, _), (9, _), (11, _), (12, _)] ⟨rfl, rfl, rfl, rfl, rfl, rfl, rfl, trivial⟩ ?_
      refine J.seq (fun K24 hK24 => ?_)
      refine J.region ?_
      refine J.y (op_move rfl rfl) rfl rfl rfl ?_
      refine J.y (op_move rfl rfl) rfl rfl rfl ?_
      refine J.y (op_move rfl rfl) rfl rfl rfl ?_
      refine J.e (op_call rfl rfl ent53 (Ct.use0 (fun F' hF => key13_ct F' a b))) rfl rfl rfl ?_
      intro g96 _
      refine J.e (op_call rfl rfl ent52 (Ct.use0 (fun F' hF => tget_ct F' g kv (ht.at.mono (hF mo (by simp))) (keyK a b)))) rfl rfl rfl ?_
      intro g97 _
      refine J.y (op_move rfl rfl) rfl rfl rfl ?_
      refine J.y (op_extract (v := Str ((Sm.getP kv (keyK a b)).getD [])) rfl rfl rfl) rfl rfl rfl ?_
      refine J.y (op_extract (v := .bool ((Sm.getP kv (keyK a b)).isSome)) rfl rfl rfl) rfl rfl rfl ?_
      refine J.y (op_assign rfl rfl) rfl rfl rfl ?_
      refine J.y (op_assign rfl rfl) rfl rfl rfl ?_
      refine J.nil ?_
      refine J.then_n (J.k hK24 ?_)
      refine J.keepE [(7, _), (9, _), (11, _), (12, _), (16, _), (17, _)] ⟨rfl, rfl, rfl, rfl, rfl, rfl, trivial⟩ ?_
      refine J.seq (fun K25 hK25 => ?_)
      obtain rfl : j = m.length := by omega
      rw [List.take_length, Sm.getP_perm hp.once hp.perm] at hw hti
      refine J.region ?_
      refine J.y (op_move rfl rfl) rfl rfl rfl ?_
      refine J.y (op_len Tryd.underlying36 rfl rfl) rfl rfl rfl ?_
      refine J.y (op_move rfl rfl) rfl rfl rfl ?_
      refine J.y (op_len Tryd.underlying75 rfl rfl) rfl rfl rfl ?_
      refine J.y ((op_eql rfl rfl rfl).as (v' := .bool true) (congrArg Value.bool (decide_eq_true (by omega)))) rfl rfl rfl ?_
      refine J.y (op_move rfl rfl) rfl rfl rfl ?_
      refine J.yg (Wan.is rfl rfl rfl rfl rfl) (op_move rfl rfl) rfl rfl ?_
      refine J.yg (Wan.is rfl rfl rfl rfl rfl) (op_move rfl rfl) rfl rfl ?_
      refine J.yg (Wan.is rfl rfl rfl rfl rfl) ((op_eqlB Tryd.underlying4 rfl rfl rfl).as (v' := .bool true) (by rw [hti]; simp)) rfl rfl ?_
      refine J.y (op_pickT rfl rfl rfl) rfl rfl rfl ?_
      refine J.y (op_move rfl rfl) rfl rfl rfl ?_
      refine J.yg (Wan.is rfl rfl rfl rfl rfl) (op_move rfl rfl) rfl rfl ?_
      refine J.yg (Wan.is rfl rfl rfl rfl rfl) (op_move rfl rfl) rfl rfl ?_
      refine J.yg (Wan.is rfl rfl rfl rfl rfl) ((op_seq rfl rfl rfl).as (v' := .bool true) (congrArg Value.bool (decide_eq_true (hw.symm)))) rfl rfl ?_
      refine J.y (op_pickT rfl rfl rfl) rfl rfl rfl ?_
      refine J.y (op_assign rfl rfl) rfl rfl rfl ?_
      refine J.nil ?_
      refine J.then_n (J.k hK25 ?_)
      refine J.keepE [(6, _)] ⟨rfl, trivial⟩ ?_
      refine J.ret ?_
      exact J.done hw0 (fun _ _ h => h) (res1 rfl rfl) (retOk () rfl trivial [0] rfl (by decide))

theorem puts_of {H : Type} {enc : TypeId × Value → H} {W : World} {xs : List (List Value)} (h : ∀ x ∈ xs, ∃ fuel y, DataW.trod enc Tryd.prog W 0 (fun _ => true) true fuel 149 x = some y) : ∃ l : List Pu, xs = putsV l ∧ ∀ a ∈ l, True :=
  rows_of (f := Pu.cells) (Q := fun _ => True) fun x hx => by
    obtain ⟨fuel, y, h1⟩ := h x hx
    obtain ⟨hl, hf⟩ := struct_of Tryd.underlying149 h1
    have hc : Tryd.prog.cellsOf 149 = 3 := by kernel_rfl
    have cB : Tryd.prog.cellsOf 5 = 1 := by kernel_rfl
    have cS : Tryd.prog.cellsOf 9 = 1 := by kernel_rfl
    rw [hc] at hl
    match x, hl, hf with
    | [v0, v1, v2], _, hf =>
      obtain ⟨_, _, h0⟩ := hf 0 _ rfl
      obtain ⟨_, _, h1⟩ := hf 1 _ rfl
      obtain ⟨_, _, h2⟩ := hf 2 _ rfl
      dsimp only at h0 h1 h2
      rw [cB] at h0
      rw [cB] at h1
      rw [cS] at h2
      obtain ⟨w0, rfl⟩ := u8_of Tryd.underlying5 h0
      obtain ⟨w1, rfl⟩ := u8_of Tryd.underlying5 h1
      obtain ⟨w2, rfl⟩ := str_of Tryd.underlying9 h2
      exact ⟨⟨w0, w1, w2⟩, rfl, trivial⟩

end Go.Proofs.YtpcffgkmpmcobaaDoor
