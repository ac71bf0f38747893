/- A part of the proof: contracts of functions of the program, each for every state of the heaps that it names. -/
import Derived.Test.YtnkfapecbmmpeaaDoorPrc
import Derived.Test.YtnkfapecbmmpeaaDoorPrf3
set_option linter.unusedSimpArgs false
set_option linter.unusedVariables false
namespace Go.Proofs.YtnkfapecbmmpeaaDoor
open Go Go.Fw
set_option maxRecDepth 100000
set_option maxHeartbeats 1000000
theorem ent96 : Enters Tryd.prog 96 := Enters.of Tryd.func96 rfl (by kernel_rfl)

theorem smGet {bs : List (List UInt8)} {n : Nat} (h : ∀ s ∈ bs, s.length ≤ n) (i : Nat) : (bs.getD i []).length ≤ n := by
  by_cases hi : i < bs.length
  · rw [List.getD_eq_getElem?_getD, List.getElem?_eq_getElem hi]; exact h _ (List.getElem_mem hi)
  · rw [List.getD_eq_getElem?_getD, List.getElem?_eq_none (by omega)]; exact Nat.zero_le _
theorem tbsT_len {l : List (List UInt8)} (h : ∀ s ∈ l, s.length ≤ 4096) (h2 : l.length ≤ 128) (i : Nat) : ((l.take i).map tb).flatten.length ≤ 600000 := by
  have h1 := tbs_len (l := l.take i) (fun s hs => h s (List.mem_of_mem_take hs))
  have h3 : (l.take i).length ≤ l.length := by rw [List.length_take]; omega
  omega

theorem penc14_ct (F : Hp) (A : Option Addr) (c : Nat) (bs : List (List UInt8)) (hs : Sl F 1 A bs.length c (strsV bs)) (th : Bool) (pk pv : List UInt8) (h128 : bs.length ≤ 128) (hsm : ∀ s ∈ bs, s.length ≤ 4096) (h1 : pk.length ≤ 4096) (h2 : pv.length ≤ 4096) : Ct Tryd.prog 45 [.agg #[.slice A bs.length c, .bool (th), Str (pk), Str (pv)]] [F] (fun _ : Unit => .tuple #[Str (pfB bs th pk pv), I ((0 : Nat) : Int)]) (fun _ => True) (fun _ => [F]) := by
  refine Ct.walk Tryd.func45 rfl Tryd.ntmps45 rfl (fun w0 hw0 => ?_)
  change J _ [(0, _)] _ _ _
  refine J.seq (fun K1 hK1 => ?_)
  refine J.region ?_
  refine J.e (op_box (l := [.slice A bs.length c, .bool (th), Str (pk), Str (pv)]) rfl rfl rfl) rfl rfl rfl ?_
  intro g1 _
  change J _ _ _ [F, blk g1 [.slice A bs.length c, .bool (th), Str (pk), Str (pv)] 57] _
  refine J.y (op_assign rfl rfl) rfl rfl rfl ?_
  refine J.y (op_assign rfl rfl) rfl rfl rfl ?_
  refine J.nil ?_
  refine J.then_n (J.k hK1 ?_)
  refine J.keepE [(1, _)] ⟨rfl, trivial⟩ ?_
  refine J.seq (fun K2 hK2 => ?_)
  refine J.seq (fun K3 hK3 => ?_)
  refine J.region ?_
  refine J.y (op_fieldAddr (j := 0) rfl rfl Tryd.underlying57 rfl Tryd.sizeOf55 rfl) rfl rfl rfl ?_
  refine J.y (op_loadB 1 (v := .slice A bs.length c) rfl rfl rfl Tryd.isAgg55 rfl) rfl rfl rfl ?_
  refine J.y (op_len Tryd.underlying55 rfl rfl) rfl rfl rfl ?_
  refine J.y ((op_gtr rfl rfl rfl).as (v' := .bool false) (congrArg Value.bool (decide_eq_false (by omega)))) rfl rfl rfl ?_
  refine J.nil ?_
  refine J.then_n (J.k hK3 ?_)
  refine J.keepE [(1, _), (11, _)] ⟨rfl, rfl, trivial⟩ ?_
  refine J.condF rfl rfl ?_
  refine J.skip ?_
  refine J.then_n (J.k hK2 ?_)
  refine J.keepE [(1, _)] ⟨rfl, trivial⟩ ?_
  refine J.seq (fun K4 hK4 => ?_)
  refine J.region ?_
  refine J.e (op_alloc (l := [.pointer none, .slice none 0 0, I 0]) rfl Tryd.zeroValue104 rfl) rfl rfl rfl ?_
  intro g4 _
  change J _ _ _ [F, blk g1 [.slice A bs.length c, .bool (th), Str (pk), Str (pv)] 57, blk g4 [.pointer none, .slice none 0 0, I 0] 104] _
  refine J.nil ?_
  refine J.then_n (J.k hK4 ?_)
  refine J.keepE [(1, _), (4, _)] ⟨rfl, rfl, trivial⟩ ?_
  refine J.seq (fun K5 hK5 => ?_)
  refine J.region ?_
  refine J.y (op_fieldAddr (j := 0) rfl rfl Tryd.underlying57 rfl Tryd.sizeOf55 rfl) rfl rfl rfl ?_
  refine J.y (op_loadB 1 (v := .slice A bs.length c) rfl rfl rfl Tryd.isAgg55 rfl) rfl rfl rfl ?_
  refine J.y (op_len Tryd.underlying55 rfl rfl) rfl rfl rfl ?_
  refine J.y (op_cvU_i64 (m := bs.length) rfl rfl Tryd.underlying3 Tryd.underlying108 (by first | omega | (simp only [List.length_append, List.length_cons, List.length_nil, List.length_take, List.length_drop] at *; omega))) rfl rfl rfl ?_
  refine J.e (op_call rfl rfl ent55 (Ct.use1 2 (m' := fun x : Hp => x) (new := fun _ => []) rfl (fun F' hF => numG_ct F' (blk g4 [.pointer none, .slice none 0 0, I 0] 104) g4 ([]) (wtrN g4) (by first | decide | omega | (simp only [List.length_append, List.length_cons, List.length_nil, List.length_singleton, Sha.numB_length, tb_len] <;> omega)) bs.length 1 (by decide) (by decide) (by first | decide | omega | assumption)))) rfl rfl rfl ?_
  rintro m16 hw16
  change J _ ((16, Ptr g4) :: _) _ [F, blk g1 [.slice A bs.length c, .bool (th), Str (pk), Str (pv)] 57, m16] _
  rw [List.nil_append, numB1b _ (by omega)] at hw16
  refine J.nil ?_
  refine J.then_n (J.k hK5 ?_)
  refine J.keepE [(1, _), (4, _)] ⟨rfl, rfl, trivial⟩ ?_
  refine J.seq (fun K6 hK6 => ?_)
  refine J.seq (fun K7 hK7 => ?_)
  refine J.region ?_
  refine J.y (op_fieldAddr (j := 0) rfl rfl Tryd.underlying57 rfl Tryd.sizeOf55 rfl) rfl rfl rfl ?_
  refine J.y (op_loadB 1 (v := .slice A bs.length c) rfl rfl rfl Tryd.isAgg55 rfl) rfl rfl rfl ?_
  refine J.y (op_len Tryd.underlying55 rfl rfl) rfl rfl rfl ?_
  refine J.y (op_move rfl rfl) rfl rfl rfl ?_
  refine J.nil ?_
  refine J.then_n (J.k hK7 ?_)
  refine J.keepE [(1, _), (4, _), (18, _), (19, _), (20, _)] ⟨rfl, rfl, rfl, rfl, rfl, trivial⟩ ?_
  refine J.block ?_
  refine J.loop (X := Nat × Hp) (fun ζ => [(1, Ptr g1), (4, Ptr g4), (18, .slice A bs.length c), (19, I ((bs.length : Nat) : Int)), (20, I ((ζ.1 : Nat) : Int))]) (fun ζ => [F, blk g1 [.slice A bs.length c, .bool (th), Str (pk), Str (pv)] 57, ζ.2]) (fun ζ => ζ.1 ≤ bs.length ∧ Wtr ζ.2 g4 ([UInt8.ofNat bs.length] ++ ((bs.take ζ.1).map tb).flatten) 0) (fun ζ => bs.length - ζ.1) (0, m16) (⟨Nat.zero_le _, hw16⟩) ⟨rfl, rfl, rfl, rfl, rfl, trivial⟩ (fun _ h => h) ?_
  rintro ⟨i, mw⟩ ⟨hi, hw⟩ I0 hI0
  dsimp only at hi hw ⊢
  have hgl := smGet hsm i
  have htl := tbsT_len hsm h128 i
  refine J.seq (fun K8 hK8 => ?_)
  refine J.region ?_
  refine J.y (op_lss rfl rfl rfl) rfl rfl rfl ?_
  refine J.nil ?_
  refine J.then_n (J.k hK8 ?_)
  refine J.keepE [(1, _), (4, _), (18, _), (19, _), (20, _), (21, _)] ⟨rfl, rfl, rfl, rfl, rfl, rfl, trivial⟩ ?_
  refine J.seq (fun K9 hK9 => ?_)
  refine J.ite rfl (fun h21 => ?_) (fun h21 => ?_)
  ·
    refine J.skip ?_
    refine J.then_n (J.k hK9 ?_)
    refine J.keepE [(1, _), (4, _), (18, _), (19, _), (20, _)] ⟨rfl, rfl, rfl, rfl, rfl, trivial⟩ ?_
    refine J.seq (fun K10 hK10 => ?_)
    refine J.block ?_
    refine J.seq (fun K11 hK11 => ?_)
    refine J.region ?_
    refine J.y (op_indexAddr (i := i) rfl rfl rfl Tryd.underlying55 Tryd.sizeOf9 hs (by first | omega | (simp only [List.length_append, List.length_cons, List.length_nil, List.length_take, List.length_drop] at *; omega))) rfl rfl rfl ?_
    refine J.y (op_load rfl rfl Tryd.isAgg9 (m := F) (by simp) (hs.elem (strsV_get (getSome [] (by first | omega | (simp only [List.length_append, List.length_cons, List.length_nil, List.length_take, List.length_drop] at *; omega)))))) rfl rfl rfl ?_
    refine J.y (op_assign rfl rfl) rfl rfl rfl ?_
    refine J.nil ?_
    refine J.then_n (J.k hK11 ?_)
    refine J.keepE [(1, _), (4, _), (6, _), (18, _), (19, _), (20, _)] ⟨rfl, rfl, rfl, rfl, rfl, rfl, trivial⟩ ?_
    refine J.region ?_
    refine J.y (op_move rfl rfl) rfl rfl rfl ?_
    refine J.e (op_call rfl rfl ent96 (Ct.use1 2 (m' := fun x : Hp => x) (new := fun _ => []) rfl (fun F' hF => textG_ct F' mw g4 ([UInt8.ofNat bs.length] ++ ((bs.take i).map tb).flatten) hw (by first | decide | omega | (simp only [List.length_append, List.length_cons, List.length_nil, List.length_singleton, Sha.numB_length, tb_len] <;> omega)) (bs.getD i []) (by first | decide | omega | assumption)))) rfl rfl rfl ?_
    rintro m25 hw25
    change J _ ((25, Ptr g4) :: _) _ [F, blk g1 [.slice A bs.length c, .bool (th), Str (pk), Str (pv)] 57, m25] _
    rw [List.append_assoc, ← tbs_take (by omega)] at hw25
    refine J.nil ?_
    refine J.blk_n ?_
    refine J.then_n (J.k hK10 ?_)
    refine J.keepE [(1, _), (4, _), (18, _), (19, _), (20, _)] ⟨rfl, rfl, rfl, rfl, rfl, trivial⟩ ?_
    refine J.region ?_
    refine J.y ((op_add rfl rfl rfl (by first | omega | (simp only [List.length_append, List.length_cons, List.length_nil, List.length_take, List.length_drop] at *; omega))).as (v' := I ((i + 1 : Nat) : Int)) (congrArg I (by omega))) rfl rfl rfl ?_
    refine J.y (op_move rfl rfl) rfl rfl rfl ?_
    refine J.nil ?_
    refine J.then_n ?_
    exact J.kk (i + 1, m25) (fun η (hη : _ ∧ bs.length - η.1 < bs.length - i) => hI0 η hη.1 hη.2) ⟨⟨by dsimp only; omega, hw25⟩, by dsimp only; omega⟩ ⟨rfl, rfl, rfl, rfl, rfl, trivial⟩ (fun _ h => h)
  ·
    refine J.exit ?_
    refine J.then_x ?_
    refine J.then_x ?_
    refine J.blk_eq ?_
    refine J.then_n (J.k hK6 ?_)
    refine J.keepE [(1, _), (4, _)] ⟨rfl, rfl, trivial⟩ ?_
    refine J.seq (fun K12 hK12 => ?_)
    obtain rfl : i = bs.length := by omega
    rw [List.take_length] at hw htl
    refine J.region ?_
    refine J.y (op_assign rfl rfl) rfl rfl rfl ?_
    refine J.nil ?_
    refine J.then_n (J.k hK12 ?_)
    refine J.keepE [(1, _), (4, _), (7, _)] ⟨rfl, rfl, rfl, trivial⟩ ?_
    refine J.seq (fun K13 hK13 => ?_)
    refine J.seq (fun K14 hK14 => ?_)
    refine J.region ?_
    refine J.y (op_fieldAddr (j := 1) rfl rfl Tryd.underlying57 rfl Tryd.sizeOf4 rfl) rfl rfl rfl ?_
    refine J.y (op_loadB 1 (v := .bool (th)) rfl rfl rfl Tryd.isAgg4 rfl) rfl rfl rfl ?_
    refine J.nil ?_
    refine J.then_n (J.k hK14 ?_)
    refine J.keepE [(1, _), (4, _), (7, _), (28, _)] ⟨rfl, rfl, rfl, rfl, trivial⟩ ?_
    refine J.cond rfl (fun h28 => ?_) (fun h28 => ?_)
    ·
      refine J.region ?_
      refine J.y (op_assign rfl rfl) rfl rfl rfl ?_
      refine J.nil ?_
      refine J.then_n (J.k hK13 ?_)
      refine J.keepE [(1, _), (4, _), (7, _)] ⟨rfl, rfl, rfl, trivial⟩ ?_
      refine J.seq (fun K15 hK15 => ?_)
      refine J.draw [blk g1 [.slice A bs.length c, .bool (th), Str (pk), Str (pv)] 57] [] (.y 0 (.y 2 (.y 3 (.y 5 (.y 6 (.e 1 (.e 4 (.e 7 (.e 8 (.y 9 (.y 10 (.y 11 (.y 12 .nil))))))))))))) Tryd.wide (by decide +kernel) (by simp) ?_
      refine J.dy rfl (op_move rfl rfl) rfl rfl rfl rfl ?_
      refine J.dy rfl (op_fieldAddr (j := 2) rfl rfl Tryd.underlying57 rfl Tryd.sizeOf9 rfl) rfl rfl rfl rfl ?_
      refine J.dy rfl (op_loadB 0 (v := Str (pk)) rfl rfl rfl Tryd.isAgg9 rfl) rfl rfl rfl rfl ?_
      refine J.dy rfl (op_fieldAddr (j := 3) rfl rfl Tryd.underlying57 rfl Tryd.sizeOf9 rfl) rfl rfl rfl rfl ?_
      refine J.dy rfl (op_loadB 0 (v := Str (pv)) rfl rfl rfl Tryd.isAgg9 rfl) rfl rfl rfl rfl ?_
      refine J.de rfl (op_call rfl rfl ent55 (Ct.use1 2 (m' := fun x : Hp => x) (new := fun _ => []) rfl (fun F' hF => numG_ct F' mw g4 ([UInt8.ofNat bs.length] ++ (bs.map tb).flatten) hw (by first | decide | omega | (simp only [List.length_append, List.length_cons, List.length_nil, List.length_singleton, Sha.numB_length, tb_len] <;> omega)) 1 1 (by decide) (by decide) (by first | decide | omega | assumption)))) rfl rfl rfl (by simp) ?_
      rintro m30 hw30
      change J _ ((30, Ptr g4) :: _) _ [F, blk g1 [.slice A bs.length c, .bool (th), Str (pk), Str (pv)] 57, m30] _
      rw [numB1b _ (by decide)] at hw30
      refine J.de rfl (op_call rfl rfl ent96 (Ct.use1 2 (m' := fun x : Hp => x) (new := fun _ => []) rfl (fun F' hF => textG_ct F' m30 g4 ([UInt8.ofNat bs.length] ++ (bs.map tb).flatten ++ [UInt8.ofNat 1]) hw30 (by first | decide | omega | (simp only [List.length_append, List.length_cons, List.length_nil, List.length_singleton, Sha.numB_length, tb_len] <;> omega)) pk (by first | decide | omega | assumption)))) rfl rfl rfl (by simp) ?_
      rintro m33 hw33
      change J _ ((33, Ptr g4) :: _) _ [F, blk g1 [.slice A bs.length c, .bool (th), Str (pk), Str (pv)] 57, m33] _
      refine J.de rfl (op_call rfl rfl ent96 (Ct.use1 2 (m' := fun x : Hp => x) (new := fun _ => []) rfl (fun F' hF => textG_ct F' m33 g4 (([UInt8.ofNat bs.length] ++ (bs.map tb).flatten ++ [UInt8.ofNat 1]) ++ tb pk) hw33 (by first | decide | omega | (simp only [List.length_append, List.length_cons, List.length_nil, List.length_singleton, Sha.numB_length, tb_len] <;> omega)) pv (by first | decide | omega | assumption)))) rfl rfl rfl (by simp) ?_
      rintro m36 hw36
      change J _ ((36, Ptr g4) :: _) _ [F, blk g1 [.slice A bs.length c, .bool (th), Str (pk), Str (pv)] 57, m36] _
      refine J.de rfl (op_call rfl rfl ent56 (Ct.use1 2 (m' := fun x : Hp => x) (new := fun _ => []) rfl (fun F' hF => bytesG_ct F' m36 g4 ((([UInt8.ofNat bs.length] ++ (bs.map tb).flatten ++ [UInt8.ofNat 1]) ++ tb pk) ++ tb pv) hw36 (by first | decide | omega | (simp only [List.length_append, List.length_cons, List.length_nil, List.length_singleton, Sha.numB_length, tb_len] <;> omega)) ))) rfl rfl rfl (by simp) ?_
      rintro m37 hw37
      change J _ ((37, .tuple #[Str ((([UInt8.ofNat bs.length] ++ (bs.map tb).flatten ++ [UInt8.ofNat 1]) ++ tb pk) ++ tb pv), I ((0 : Nat) : Int)]) :: _) _ [F, blk g1 [.slice A bs.length c, .bool (th), Str (pk), Str (pv)] 57, m37] _
      refine J.dy rfl (op_extract (v := Str ((([UInt8.ofNat bs.length] ++ (bs.map tb).flatten ++ [UInt8.ofNat 1]) ++ tb pk) ++ tb pv)) rfl rfl rfl) rfl rfl rfl rfl ?_
      refine J.dy rfl (op_extract (v := I ((0 : Nat) : Int)) rfl rfl rfl) rfl rfl rfl rfl ?_
      refine J.dy rfl (op_assign rfl rfl) rfl rfl rfl rfl ?_
      refine J.dy rfl (op_assign rfl rfl) rfl rfl rfl rfl ?_
      refine J.dnil ?_
      refine J.then_n (J.k hK15 ?_)
      refine J.keepE [(2, _), (3, _)] ⟨rfl, rfl, trivial⟩ ?_
      refine J.ret ?_
      exact J.done hw0 (fun _ _ h => h) (res2 rfl rfl rfl) (retOk () (by unfold pfB b01; rw [h28]; rfl) trivial [0] rfl (by decide))
    ·
      refine J.skip ?_
      refine J.then_n (J.k hK13 ?_)
      refine J.keepE [(1, _), (4, _), (7, _)] ⟨rfl, rfl, rfl, trivial⟩ ?_
      refine J.seq (fun K16 hK16 => ?_)
      refine J.draw [blk g1 [.slice A bs.length c, .bool (th), Str (pk), Str (pv)] 57] [] (.y 0 (.y 2 (.y 3 (.y 5 (.y 6 (.e 1 (.e 4 (.e 7 (.e 8 (.y 9 (.y 10 (.y 11 (.y 12 .nil))))))))))))) Tryd.wide (by decide +kernel) (by simp) ?_
      refine J.dy rfl (op_move rfl rfl) rfl rfl rfl rfl ?_
      refine J.dy rfl (op_fieldAddr (j := 2) rfl rfl Tryd.underlying57 rfl Tryd.sizeOf9 rfl) rfl rfl rfl rfl ?_
      refine J.dy rfl (op_loadB 0 (v := Str (pk)) rfl rfl rfl Tryd.isAgg9 rfl) rfl rfl rfl rfl ?_
      refine J.dy rfl (op_fieldAddr (j := 3) rfl rfl Tryd.underlying57 rfl Tryd.sizeOf9 rfl) rfl rfl rfl rfl ?_
      refine J.dy rfl (op_loadB 0 (v := Str (pv)) rfl rfl rfl Tryd.isAgg9 rfl) rfl rfl rfl rfl ?_
      refine J.de rfl (op_call rfl rfl ent55 (Ct.use1 2 (m' := fun x : Hp => x) (new := fun _ => []) rfl (fun F' hF => numG_ct F' mw g4 ([UInt8.ofNat bs.length] ++ (bs.map tb).flatten) hw (by first | decide | omega | (simp only [List.length_append, List.length_cons, List.length_nil, List.length_singleton, Sha.numB_length, tb_len] <;> omega)) 0 1 (by decide) (by decide) (by first | decide | omega | assumption)))) rfl rfl rfl (by simp) ?_
      rintro m30 hw30
      change J _ ((30, Ptr g4) :: _) _ [F, blk g1 [.slice A bs.length c, .bool (th), Str (pk), Str (pv)] 57, m30] _
      rw [numB1b _ (by decide)] at hw30
      refine J.de rfl (op_call rfl rfl ent96 (Ct.use1 2 (m' := fun x : Hp => x) (new := fun _ => []) rfl (fun F' hF => textG_ct F' m30 g4 ([UInt8.ofNat bs.length] ++ (bs.map tb).flatten ++ [UInt8.ofNat 0]) hw30 (by first | decide | omega | (simp only [List.length_append, List.length_cons, List.length_nil, List.length_singleton, Sha.numB_length, tb_len] <;> omega)) pk (by first | decide | omega | assumption)))) rfl rfl rfl (by simp) ?_
      rintro m33 hw33
      change J _ ((33, Ptr g4) :: _) _ [F, blk g1 [.slice A bs.length c, .bool (th), Str (pk), Str (pv)] 57, m33] _
      refine J.de rfl (op_call rfl rfl ent96 (Ct.use1 2 (m' := fun x : Hp => x) (new := fun _ => []) rfl (fun F' hF => textG_ct F' m33 g4 (([UInt8.ofNat bs.length] ++ (bs.map tb).flatten ++ [UInt8.ofNat 0]) ++ tb pk) hw33 (by first | decide | omega | (simp only [List.length_append, List.length_cons, List.length_nil, List.length_singleton, Sha.numB_length, tb_len] <;> omega)) pv (by first | decide | omega | assumption)))) rfl rfl rfl (by simp) ?_
      rintro m36 hw36
      change J _ ((36, Ptr g4) :: _) _ [F, blk g1 [.slice A bs.length c, .bool (th), Str (pk), Str (pv)] 57, m36] _
      refine J.de rfl (op_call rfl rfl ent56 (Ct.use1 2 (m' := fun x : Hp => x) (new := fun _ => []) rfl (fun F' hF => bytesG_ct F' m36 g4 ((([UInt8.ofNat bs.length] ++ (bs.map tb).flatten ++ [UInt8.ofNat 0]) ++ tb pk) ++ tb pv) hw36 (by first | decide | omega | (simp only [List.length_append, List.length_cons, List.length_nil, List.length_singleton, Sha.numB_length, tb_len] <;> omega)) ))) rfl rfl rfl (by simp) ?_
      rintro m37 hw37
      change J _ ((37, .tuple #[Str ((([UInt8.ofNat bs.length] ++ (bs.map tb).flatten ++ [UInt8.ofNat 0]) ++ tb pk) ++ tb pv), I ((0 : Nat) : Int)]) :: _) _ [F, blk g1 [.slice A bs.length c, .bool (th), Str (pk), Str (pv)] 57, m37] _
      refine J.dy rfl (op_extract (v := Str ((([UInt8.ofNat bs.length] ++ (bs.map tb).flatten ++ [UInt8.ofNat 0]) ++ tb pk) ++ tb pv)) rfl rfl rfl) rfl rfl rfl rfl ?_
      refine J.dy rfl (op_extract (v := I ((0 : Nat) : Int)) rfl rfl rfl) rfl rfl rfl rfl ?_
      refine J.dy rfl (op_assign rfl rfl) rfl rfl rfl rfl ?_
      refine J.dy rfl (op_assign rfl rfl) rfl rfl rfl rfl ?_
      refine J.dnil ?_
      refine J.then_n (J.k hK16 ?_)
      refine J.keepE [(2, _), (3, _)] ⟨rfl, rfl, trivial⟩ ?_
      refine J.ret ?_
      exact J.done hw0 (fun _ _ h => h) (res2 rfl rfl rfl) (retOk () (by unfold pfB b01; rw [h28]; rfl) trivial [0] rfl (by decide))

end Go.Proofs.YtnkfapecbmmpeaaDoor
