/- A part of the proof: contracts of functions of the program, each for every state of the heaps that it names. -/
import Derived.Test.YtnkfapecbmmpeaaDoorSmt3
set_option linter.unusedSimpArgs false
set_option linter.unusedVariables false
namespace Go.Proofs.YtnkfapecbmmpeaaDoor
open Go Go.Fw
set_option maxRecDepth 100000
set_option maxHeartbeats 1000000
theorem ent30 : Enters Tryd.prog 30 := Enters.of Tryd.func30 rfl (by kernel_rfl)
theorem ent63 : Enters Tryd.prog 63 := Enters.of Tryd.func63 rfl (by kernel_rfl)
theorem ent65 : Enters Tryd.prog 65 := Enters.of Tryd.func65 rfl (by kernel_rfl)
theorem ent70 : Enters Tryd.prog 70 := Enters.of Tryd.func70 rfl (by kernel_rfl)
theorem ent74 : Enters Tryd.prog 74 := Enters.of Tryd.func74 rfl (by kernel_rfl)
theorem ent114 : Enters Tryd.prog 114 := Enters.of Tryd.func114 rfl (by kernel_rfl)

def NodeOk (f : Nat) : Prop := ∀ (F : Hp) (hK : Cells F ⟨1, 0, none⟩ (Sha.K.map W32)) (g : Nat) (l : List Sm.PR) (hT : TreeA F g l) (hv : ∀ p ∈ l, p.2.length ≤ 1000000) (A : Option Addr) (n c : Nat) (ks : List (List UInt8)) (hs : Sl F 1 A n c (strsV ks)) (hn : n ≤ 1000000) (hw : Sm.WF f (Sm.prs l ks)) (hu : Sm.Up (Sm.prs l ks)) (d : Nat) (hd : d + f = 128), Ct Tryd.prog 74 [Ptr g, .slice A n c, I ((d : Nat) : Int)] [F] (fun _ : Unit => Str (Sm.nd f (Sm.prs l ks))) (fun _ => True) (fun _ => [F])
theorem getP_small {l : List Sm.PR} (hv : ∀ p ∈ l, p.2.length ≤ 1000000) (k : List UInt8) : ((Sm.getP l k).getD []).length ≤ 1000000 := by
  cases h : Sm.getP l k with
  | none => exact Nat.zero_le _
  | some v => exact hv _ (Sm.getP_some h)
theorem prs_key {f : Nat} {l : List Sm.PR} {ks : List (List UInt8)} (hw : Sm.WF f (Sm.prs l ks)) {j : Nat} (hj : j < ks.length) : (ks.getD j []).length = 16 := by
  have h : j < (Sm.prs l ks).length := by rw [Sm.prs_len]; exact hj
  have h1 := hw.2.1 _ (List.getElem_mem h)
  rw [Sm.prs_get l ks h hj] at h1
  rw [List.getD_eq_getElem?_getD, List.getElem?_eq_getElem hj]; exact h1
theorem prs_small {f : Nat} {l : List Sm.PR} {ks : List (List UInt8)} (hw : Sm.WF f (Sm.prs l ks)) (j : Nat) : (ks.getD j []).length ≤ 1000000 := by
  by_cases hj : j < ks.length
  · rw [prs_key hw hj]; decide
  · rw [List.getD_eq_getElem?_getD, List.getElem?_eq_none (by omega)]; decide
theorem prs_bit {f d : Nat} {l : List Sm.PR} {ks : List (List UInt8)} (hw : Sm.WF (f + 1) (Sm.prs l ks)) (hd : d + (f + 1) = 128) {j : Nat} (h : j < (Sm.prs l ks).length) : Sm.bit (ks.getD j []) d = Sm.kv (Sm.prs l ks)[j].1 / 2 ^ f % 2 := by
  have hj : j < ks.length := by rw [Sm.prs_len] at h; exact h
  rw [Sm.bit_kv (prs_key hw hj) (by omega), Sm.prs_get l ks h hj, List.getD_eq_getElem?_getD, List.getElem?_eq_getElem hj, show 127 - d = f by omega]; rfl

theorem tnode_step (f : Nat) (ih : ∀ f', f = f' + 1 → NodeOk f') (F : Hp) (hK : Cells F ⟨1, 0, none⟩ (Sha.K.map W32)) (g : Nat) (l : List Sm.PR) (hT : TreeA F g l) (hv : ∀ p ∈ l, p.2.length ≤ 1000000) (A : Option Addr) (n c : Nat) (ks : List (List UInt8)) (hs : Sl F 1 A n c (strsV ks)) (hn : n ≤ 1000000) (hw : Sm.WF f (Sm.prs l ks)) (hu : Sm.Up (Sm.prs l ks)) (d : Nat) (hd : d + f = 128) :
    Ct Tryd.prog 74 [Ptr g, .slice A n c, I ((d : Nat) : Int)] [F] (fun _ : Unit => Str (Sm.nd f (Sm.prs l ks))) (fun _ => True) (fun _ => [F]) := by
  have hkn : ks.length = n := by have := hs.1; simpa [strsV] using this
  have hT0 := hT
  obtain ⟨gm, hc, hm⟩ := hT0
  have hsm := prs_small hw
  have hnc := hs.2.1
  refine Ct.walk Tryd.func74 rfl Tryd.ntmps74 rfl (fun w0 hw0 => ?_)
  change J _ [(0, _), (1, _), (2, _)] _ _ _
  refine J.seq (fun K1 hK1 => ?_)
  refine J.region ?_
  refine J.y (op_assign rfl rfl) rfl rfl rfl ?_
  refine J.nil ?_
  refine J.then_n (J.k hK1 ?_)
  refine J.keepE [(0, _), (1, _), (2, _)] ⟨rfl, rfl, rfl, trivial⟩ ?_
  refine J.seq (fun K2 hK2 => ?_)
  refine J.seq (fun K3 hK3 => ?_)
  refine J.region ?_
  refine J.y (op_move rfl rfl) rfl rfl rfl ?_
  refine J.y (op_len Tryd.underlying55 rfl rfl) rfl rfl rfl ?_
  refine J.nil ?_
  refine J.then_n (J.k hK3 ?_)
  refine J.keepE [(0, _), (1, _), (2, _), (9, _)] ⟨rfl, rfl, rfl, rfl, trivial⟩ ?_
  refine J.block ?_
  refine J.seq (fun K4 hK4 => ?_)
  refine J.region ?_
  refine J.y (op_eql rfl rfl rfl) rfl rfl rfl ?_
  refine J.y (op_assign rfl rfl) rfl rfl rfl ?_
  refine J.nil ?_
  refine J.then_n (J.k hK4 ?_)
  refine J.keepE [(0, _), (1, _), (2, _), (9, _), (10, _)] ⟨rfl, rfl, rfl, rfl, rfl, trivial⟩ ?_
  refine J.ite rfl (fun h10 => ?_) (fun h10 => ?_)
  ·
    refine J.seq (fun K5 hK5 => ?_)
    refine J.region ?_
    refine J.y (op_assign rfl rfl) rfl rfl rfl ?_
    refine J.nil ?_
    refine J.then_n (J.k hK5 ?_)
    refine J.keepE [(6, _)] ⟨rfl, trivial⟩ ?_
    refine J.ret ?_
    refine J.blk_r ?_
    refine J.then_r ?_
    exact J.done hw0 (fun _ _ h => h) (res1 rfl rfl) (retOk () (by rw [List.eq_nil_of_length_eq_zero (show ks.length = 0 by omega)]; show _ = Str (Sm.nd f []); rw [Sm.nd_nil]) trivial [0] rfl (by decide))
  ·
    refine J.seq (fun K6 hK6 => ?_)
    refine J.region ?_
    refine J.y (op_eql rfl rfl rfl) rfl rfl rfl ?_
    refine J.y (op_assign rfl rfl) rfl rfl rfl ?_
    refine J.nil ?_
    refine J.then_n (J.k hK6 ?_)
    refine J.keepE [(0, _), (1, _), (2, _), (12, _)] ⟨rfl, rfl, rfl, rfl, trivial⟩ ?_
    refine J.ite rfl (fun h12 => ?_) (fun h12 => ?_)
    ·
      refine J.seq (fun K7 hK7 => ?_)
      have hk0 := hsm 0
      have hv0 := getP_small hv (ks.getD 0 [])
      refine J.draw [F] [] (.y 0 (.y 1 (.y 2 (.y 3 (.y 4 (.y 5 (.y 6 (.y 7 (.y 8 (.y 9 (.y 10 (.e 11 (.y 12 .nil))))))))))))) Tryd.wide (by decide +kernel) (by simp) ?_
      refine J.dy rfl (op_move rfl rfl) rfl rfl rfl rfl ?_
      refine J.dy rfl (op_indexAddr (i := 0) rfl rfl rfl Tryd.underlying55 Tryd.sizeOf9 hs (by first | omega | (simp only [List.length_append, List.length_cons, List.length_nil, List.length_take, List.length_drop] at *; omega))) rfl rfl rfl rfl ?_
      refine J.dy rfl (op_load rfl rfl Tryd.isAgg9 (m := F) (by simp) (hs.elem (strsV_get (getSome [] (by first | omega | (simp only [List.length_append, List.length_cons, List.length_nil, List.length_take, List.length_drop] at *; omega)))))) rfl rfl rfl rfl ?_
      refine J.dy rfl (op_move rfl rfl) rfl rfl rfl rfl ?_
      refine J.dy rfl (op_nilCheck rfl rfl) rfl rfl rfl rfl ?_
      refine J.dy rfl (op_fieldAddr (j := 0) rfl rfl Tryd.underlying95 rfl Tryd.sizeOf93 rfl) rfl rfl rfl rfl ?_
      refine J.dy rfl (op_load (v := .map (some gm)) rfl rfl Tryd.isAgg93 (m := F) (by simp) (hc)) rfl rfl rfl rfl ?_
      refine J.dy rfl (op_move rfl rfl) rfl rfl rfl rfl ?_
      refine J.dy rfl (op_indexAddr (i := 0) rfl rfl rfl Tryd.underlying55 Tryd.sizeOf9 hs (by first | omega | (simp only [List.length_append, List.length_cons, List.length_nil, List.length_take, List.length_drop] at *; omega))) rfl rfl rfl rfl ?_
      refine J.dy rfl (op_load rfl rfl Tryd.isAgg9 (m := F) (by simp) (hs.elem (strsV_get (getSome [] (by first | omega | (simp only [List.length_append, List.length_cons, List.length_nil, List.length_take, List.length_drop] at *; omega)))))) rfl rfl rfl rfl ?_
      refine J.dy rfl ((op_lookup1 rfl rfl rfl Tryd.underlying93 Tryd.underlying9 Tryd.zeroValue9 (m := F) (by simp) hm).as (v' := Str ((Sm.getP l (ks.getD 0 [])).getD [])) (by rw [getM_ss, getD_ss])) rfl rfl rfl rfl ?_
      refine J.de rfl (op_call rfl rfl ent70 (Ct.use0 (fun F' hF => sLeaf_ct F' (hK.mono (hF F (by simp))) (ks.getD 0 []) ((Sm.getP l (ks.getD 0 [])).getD []) (by first | omega | exact Nat.le_of_ble_eq_true rfl) (by first | omega | exact Nat.le_of_ble_eq_true rfl)))) rfl rfl rfl (by simp) ?_
      intro g25 _
      refine J.dy rfl (op_assign rfl rfl) rfl rfl rfl rfl ?_
      refine J.dnil ?_
      refine J.then_n (J.k hK7 ?_)
      refine J.keepE [(6, _)] ⟨rfl, trivial⟩ ?_
      refine J.ret ?_
      refine J.blk_r ?_
      refine J.then_r ?_
      exact J.done hw0 (fun _ _ h => h) (res1 rfl rfl) (retOk () (by obtain ⟨k, rfl⟩ := List.length_eq_one_iff.1 (show ks.length = 1 by omega); exact (congrArg Str (Sm.nd_one f (k, (Sm.getP l k).getD []))).symm) trivial [0] rfl (by decide))
    ·
      obtain ⟨f', rfl⟩ : ∃ f', f = f' + 1 := Nat.exists_eq_succ_of_ne_zero (fun e => by subst e; have := hw.short; rw [Sm.prs_len] at this; omega)
      refine J.skip ?_
      refine J.blk_n ?_
      refine J.then_n (J.k hK2 ?_)
      refine J.keepE [(0, _), (1, _), (2, _)] ⟨rfl, rfl, rfl, trivial⟩ ?_
      refine J.seq (fun K8 hK8 => ?_)
      refine J.region ?_
      refine J.y (op_assign rfl rfl) rfl rfl rfl ?_
      refine J.nil ?_
      refine J.then_n (J.k hK8 ?_)
      refine J.keepE [(0, _), (1, _), (2, _), (7, _)] ⟨rfl, rfl, rfl, rfl, trivial⟩ ?_
      refine J.cut (X := Nat) (fun ζ => [(0, Ptr g), (1, .slice A n c), (2, I ((d : Nat) : Int)), (7, I ((ζ : Nat) : Int))]) (fun ζ => [F]) (fun ζ => ζ ≤ n ∧ (∀ j < ζ, Sm.bit (ks.getD j []) d = 0) ∧ (ζ < n → Sm.bit (ks.getD ζ []) d ≠ 0)) (fun K9 hK9 => ?_) ?_
      ·
        refine J.block ?_
        refine J.loop (X := Nat) (fun ζ => [(0, Ptr g), (1, .slice A n c), (2, I ((d : Nat) : Int)), (7, I ((ζ : Nat) : Int))]) (fun ζ => [F]) (fun ζ => ζ ≤ n ∧ ∀ j < ζ, Sm.bit (ks.getD j []) d = 0) (fun ζ => n - ζ) 0 (⟨Nat.zero_le _, fun j h => absurd h (Nat.not_lt_zero j)⟩) ⟨rfl, rfl, rfl, rfl, trivial⟩ (fun _ h => h) ?_
        rintro k ⟨hk, hno⟩ I1 hI1
        have hsk := hsm k
        refine J.seq (fun K10 hK10 => ?_)
        refine J.seq (fun K11 hK11 => ?_)
        refine J.region ?_
        refine J.y (op_move rfl rfl) rfl rfl rfl ?_
        refine J.y (op_move rfl rfl) rfl rfl rfl ?_
        refine J.y (op_len Tryd.underlying55 rfl rfl) rfl rfl rfl ?_
        refine J.y (op_lss rfl rfl rfl) rfl rfl rfl ?_
        refine J.y (op_move rfl rfl) rfl rfl rfl ?_
        refine J.split (d := 30) rfl (fun h30 => ?_) (fun h30 => ?_)
        ·
          refine J.yg (Wan.is rfl rfl rfl rfl rfl) (op_move rfl rfl) rfl rfl ?_
          refine J.yg (Wan.is rfl rfl rfl rfl rfl) (op_move rfl rfl) rfl rfl ?_
          refine J.yg (Wan.is rfl rfl rfl rfl rfl) (op_indexAddr (i := k) rfl rfl rfl Tryd.underlying55 Tryd.sizeOf9 hs (by first | omega | (simp only [List.length_append, List.length_cons, List.length_nil, List.length_take, List.length_drop] at *; omega))) rfl rfl ?_
          refine J.yg (Wan.is rfl rfl rfl rfl rfl) (op_load rfl rfl Tryd.isAgg9 (m := F) (by simp) (hs.elem (strsV_get (getSome [] (by first | omega | (simp only [List.length_append, List.length_cons, List.length_nil, List.length_take, List.length_drop] at *; omega)))))) rfl rfl ?_
          refine J.yg (Wan.is rfl rfl rfl rfl rfl) (op_move rfl rfl) rfl rfl ?_
          refine J.eg (Wan.is rfl rfl rfl rfl rfl) (op_call rfl rfl ent112 (Ct.use0 (fun F' hF => bit_ct F' (ks.getD k []) (by first | omega | exact hsm _) d (by omega)))) rfl rfl ?_
          intro g36 _
          refine J.yg (Wan.is rfl rfl rfl rfl rfl) (op_eql rfl rfl rfl) rfl rfl ?_
          refine J.y (op_pickT rfl rfl rfl) rfl rfl rfl ?_
          refine J.nil ?_
          refine J.then_n (J.k hK11 ?_)
          refine J.keepE [(0, _), (1, _), (2, _), (7, _), (38, _)] ⟨rfl, rfl, rfl, rfl, rfl, trivial⟩ ?_
          refine J.ite rfl (fun h38 => ?_) (fun h38 => ?_)
          ·
            refine J.skip ?_
            refine J.then_n (J.k hK10 ?_)
            refine J.keepE [(0, _), (1, _), (2, _), (7, _)] ⟨rfl, rfl, rfl, rfl, trivial⟩ ?_
            refine J.block ?_
            refine J.region ?_
            refine J.y (op_move rfl rfl) rfl rfl rfl ?_
            refine J.y ((op_add rfl rfl rfl (by first | omega | (simp only [List.length_append, List.length_cons, List.length_nil, List.length_take, List.length_drop] at *; omega))).as (v' := I ((k + 1 : Nat) : Int)) (congrArg I (by omega))) rfl rfl rfl ?_
            refine J.y (op_assign rfl rfl) rfl rfl rfl ?_
            refine J.nil ?_
            refine J.blk_n ?_
            refine J.then_n ?_
            exact J.kk (k + 1) (fun η (hη : _ ∧ n - η < n - k) => hI1 η hη.1 hη.2) ⟨⟨by omega, fun j hj => by rcases Nat.lt_succ_iff_lt_or_eq.1 hj with h | rfl; exact hno j h; omega⟩, by first | omega | (dsimp only; omega)⟩ ⟨rfl, rfl, rfl, rfl, trivial⟩ (fun _ h => h)
          ·
            refine J.exit ?_
            refine J.then_x ?_
            refine J.then_x ?_
            refine J.blk_eq ?_
            refine J.then_n ?_
            exact J.kk (k) hK9 (⟨by omega, hno, fun h => by omega⟩) ⟨rfl, rfl, rfl, rfl, trivial⟩ (fun _ h => h)
        ·
          refine J.no (Wan.is rfl rfl rfl rfl rfl) rfl rfl ?_
          refine J.no (Wan.is rfl rfl rfl rfl rfl) rfl rfl ?_
          refine J.no (Wan.is rfl rfl rfl rfl rfl) rfl rfl ?_
          refine J.no (Wan.is rfl rfl rfl rfl rfl) rfl rfl ?_
          refine J.no (Wan.is rfl rfl rfl rfl rfl) rfl rfl ?_
          refine J.no (Wan.is rfl rfl rfl rfl rfl) rfl rfl ?_
          refine J.no (Wan.is rfl rfl rfl rfl rfl) rfl rfl ?_
          refine J.y (op_pickF rfl rfl rfl) rfl rfl rfl ?_
          refine J.nil ?_
          refine J.then_n (J.k hK11 ?_)
          refine J.keepE [(0, _), (1, _), (2, _), (7, _), (38, _)] ⟨rfl, rfl, rfl, rfl, rfl, trivial⟩ ?_
          refine J.condF rfl rfl ?_
          refine J.exit ?_
          refine J.then_x ?_
          refine J.then_x ?_
          refine J.blk_eq ?_
          refine J.then_n ?_
          exact J.kk (k) hK9 (⟨by omega, hno, fun h => by omega⟩) ⟨rfl, rfl, rfl, rfl, trivial⟩ (fun _ h => h)
      rintro k ⟨hk, hk0, hk1⟩
      refine J.seq (fun K12 hK12 => ?_)
      have hup := Sm.up_bits hw hu (k := k) (fun j hj hjk => by rw [← prs_bit hw hd hj]; exact hk0 j hjk) (fun hj => by rw [← prs_bit hw hd hj]; exact hk1 (by rw [Sm.prs_len] at hj; omega))
      have hW1 : Sm.WF f' (Sm.prs l (ks.take k)) := by rw [Sm.prs_take, hup.1]; exact hw.side true
      have hW2 : Sm.WF f' (Sm.prs l (ks.drop k)) := by rw [Sm.prs_drop, hup.2]; exact hw.side false
      have hU1 : Sm.Up (Sm.prs l (ks.take k)) := by rw [Sm.prs_take]; exact hu.sub (List.take_sublist _ _)
      have hU2 : Sm.Up (Sm.prs l (ks.drop k)) := by rw [Sm.prs_drop]; exact hu.sub (List.drop_sublist _ _)
      have hz1 := Sm.nd_small f' (Sm.prs l (ks.take k))
      have hz2 := Sm.nd_small f' (Sm.prs l (ks.drop k))
      refine J.draw [F] [] (.y 0 (.y 1 (.y 2 (.y 3 (.y 4 (.y 5 (.y 7 (.y 8 (.y 9 (.y 10 (.y 11 (.y 12 (.e 6 (.e 13 (.e 14 (.y 15 .nil)))))))))))))))) Tryd.wide (by decide +kernel) (by simp) ?_
      refine J.dy rfl (op_move rfl rfl) rfl rfl rfl rfl ?_
      refine J.dy rfl (op_move rfl rfl) rfl rfl rfl rfl ?_
      refine J.dy rfl (op_move rfl rfl) rfl rfl rfl rfl ?_
      refine J.dy rfl (op_sliceTo (h := k) rfl rfl Tryd.underlying55 Tryd.sizeOf9 rfl (by first | omega | (simp only [List.length_append, List.length_cons, List.length_nil, List.length_take, List.length_drop] at *; omega))) rfl rfl rfl rfl ?_
      refine J.dy rfl (op_move rfl rfl) rfl rfl rfl rfl ?_
      refine J.dy rfl ((op_add rfl rfl rfl (by first | omega | (simp only [List.length_append, List.length_cons, List.length_nil, List.length_take, List.length_drop] at *; omega))).as (v' := I ((d + 1 : Nat) : Int)) (congrArg I (by omega))) rfl rfl rfl rfl ?_
      refine J.dy rfl (op_move rfl rfl) rfl rfl rfl rfl ?_
      refine J.dy rfl (op_move rfl rfl) rfl rfl rfl rfl ?_
      refine J.dy rfl (op_move rfl rfl) rfl rfl rfl rfl ?_
      refine J.dy rfl (op_slice (l := k) (h := n) rfl rfl Tryd.underlying55 Tryd.sizeOf9 rfl rfl (by first | omega | (simp only [List.length_append, List.length_cons, List.length_nil, List.length_take, List.length_drop] at *; omega))) rfl rfl rfl rfl ?_
      refine J.dy rfl (op_move rfl rfl) rfl rfl rfl rfl ?_
      refine J.dy rfl ((op_add rfl rfl rfl (by first | omega | (simp only [List.length_append, List.length_cons, List.length_nil, List.length_take, List.length_drop] at *; omega))).as (v' := I ((d + 1 : Nat) : Int)) (congrArg I (by omega))) rfl rfl rfl rfl ?_
      refine J.de rfl (op_call rfl rfl ent74 (Ct.use0 (fun F' hF => ih f' rfl F' (hK.mono (hF F (by simp))) g l (hT.mono (hF F (by simp))) hv A k c (ks.take k) ((hs.strsTo (by omega)).mono (hF F (by simp))) (by omega) hW1 hU1 (d + 1) (by omega)))) rfl rfl rfl (by simp) ?_
      intro g47 _
      refine J.de rfl (op_call rfl rfl ent74 (Ct.use0 (fun F' hF => ih f' rfl F' (hK.mono (hF F (by simp))) g l (hT.mono (hF F (by simp))) hv (if c = k then A else A.map (·.add (k * 1))) (n - k) (c - k) (ks.drop k) ((hs.strsFrom (by omega)).mono (hF F (by simp))) (by omega) hW2 hU2 (d + 1) (by omega)))) rfl rfl rfl (by simp) ?_
      intro g54 _
      refine J.de rfl (op_call rfl rfl ent114 (Ct.use0 (fun F' hF => sjoin_ct F' (hK.mono (hF F (by simp))) (Sm.nd f' (Sm.prs l (ks.take k))) (Sm.nd f' (Sm.prs l (ks.drop k))) (by omega) (by omega)))) rfl rfl rfl (by simp) ?_
      intro g55 _
      refine J.dy rfl (op_assign rfl rfl) rfl rfl rfl rfl ?_
      refine J.dnil ?_
      refine J.then_n (J.k hK12 ?_)
      refine J.keepE [(6, _)] ⟨rfl, trivial⟩ ?_
      refine J.ret ?_
      exact J.done hw0 (fun _ _ h => h) (res1 rfl rfl) (retOk () (by rw [Sm.nd_two f' (by rw [Sm.prs_len]; omega), ← hup.1, ← hup.2, Sm.prs_take, Sm.prs_drop]) trivial [0] rfl (by decide))

theorem tnode_ok : ∀ f, NodeOk f
  | 0 => fun F hK g l hT hv A n c ks hs hn hw hu d hd => tnode_step 0 (fun f' h => absurd h (Nat.succ_ne_zero f').symm) F hK g l hT hv A n c ks hs hn hw hu d hd
  | f + 1 => fun F hK g l hT hv A n c ks hs hn hw hu d hd => tnode_step (f + 1) (fun f' h => by injection h with h; subst h; exact tnode_ok f) F hK g l hT hv A n c ks hs hn hw hu d hd
theorem keysS_small {l : List Sm.PR} (hk : ∀ p ∈ l, p.1.length = 16) (j : Nat) : ((Sm.keysS l).getD j []).length ≤ 1000000 := by
  by_cases hj : j < (Sm.keysS l).length
  · rw [List.getD_eq_getElem?_getD, List.getElem?_eq_getElem hj]
    obtain ⟨v, hv⟩ := Sm.keysS_mem.1 (List.getElem_mem hj)
    show ((Sm.keysS l)[j]).length ≤ 1000000
    rw [show (Sm.keysS l)[j].length = 16 from hk _ hv]; decide
  · rw [List.getD_eq_getElem?_getD, List.getElem?_eq_none (by omega)]; decide
theorem flt_bel (l : List Sm.PR) (b : List UInt8) (d : Int) : Sm.prs l ((Sm.keysS l).filter fun k => !nbl b d k) = Sm.bel (Sm.prs l (Sm.keysS l)) b (min d.toNat 128) := by
  rw [Sm.prs_filter]
  unfold Sm.bel nbl
  congr 1
  funext p
  rw [Bool.not_not]
theorem bel_perm {l : List Sm.PR} (ho : Sm.Once l) (b : List UInt8) (D : Nat) : (Sm.bel l b D).Perm (Sm.bel (Sm.prs l (Sm.keysS l)) b D) := (Sm.prs_perm ho).symm.filter _
/-- a tree that may be: keys of 16 bytes, each once -/
structure Fine (l : List Sm.PR) : Prop where
  once : Sm.Once l
  k16 : ∀ p ∈ l, p.1.length = 16
  small : ∀ p ∈ l, p.2.length ≤ 1000000
  few : l.length ≤ 1000000

theorem tNode_ct (F : Hp) (hK : Cells F ⟨1, 0, none⟩ (Sha.K.map W32)) (g : Nat) (l : List Sm.PR) (hT : TreeA F g l) (hf : Fine l) (b : List UInt8) (hb : b.length ≤ 1000000) (d : Int) (hw : Sm.WF (128 - min d.toNat 128) (Sm.bel l b (min d.toNat 128))) : Ct Tryd.prog 30 [Ptr g, Str (b), I (d)] [F] (fun _ : Unit => Str (Sm.ndB l b (min d.toNat 128))) (fun _ => True) (fun _ => [F]) := by
  have hln := hf.few
  have hkl := Sm.keysS_len l
  have hfl : ((Sm.keysS l).filter fun k => !nbl b d k).length ≤ (Sm.keysS l).length := List.length_filter_le _ _
  have hW : Sm.WF (128 - min d.toNat 128) (Sm.prs l ((Sm.keysS l).filter fun k => !nbl b d k)) := by rw [flt_bel]; exact hw.perm (bel_perm hf.once _ _)
  have hU : Sm.Up (Sm.prs l ((Sm.keysS l).filter fun k => !nbl b d k)) := by rw [Sm.prs_filter]; exact (Sm.prs_up hf.once hf.k16).sub List.filter_sublist
  have hR : Sm.nd (128 - min d.toNat 128) (Sm.prs l ((Sm.keysS l).filter fun k => !nbl b d k)) = Sm.ndB l b (min d.toNat 128) := by rw [flt_bel]; exact (Sm.nd_perm _ hw (bel_perm hf.once _ _)).symm
  refine Ct.walk Tryd.func30 rfl Tryd.ntmps30 rfl (fun w0 hw0 => ?_)
  change J _ [(0, _), (1, _), (2, _)] _ _ _
  refine J.seq (fun K1 hK1 => ?_)
  refine J.region ?_
  refine J.e (op_box (l := [Str (b)]) rfl rfl rfl) rfl rfl rfl ?_
  intro g4 _
  change J _ _ _ [F, blk g4 [Str (b)] 9] _
  refine J.e (op_box (l := [I (d)]) rfl rfl rfl) rfl rfl rfl ?_
  intro g5 _
  change J _ _ _ [F, blk g4 [Str (b)] 9, blk g5 [I (d)] 3] _
  refine J.y (op_assign rfl rfl) rfl rfl rfl ?_
  refine J.nil ?_
  refine J.then_n (J.k hK1 ?_)
  refine J.keepE [(0, _), (4, _), (5, _)] ⟨rfl, rfl, rfl, trivial⟩ ?_
  refine J.seq (fun K2 hK2 => ?_)
  refine J.seq (fun K3 hK3 => ?_)
  refine J.region ?_
  refine J.y (op_move rfl rfl) rfl rfl rfl ?_
  refine J.y ((op_peq Tryd.underlying25 rfl rfl rfl).as (v' := .bool false) rfl) rfl rfl rfl ?_
  refine J.nil ?_
  refine J.then_n (J.k hK3 ?_)
  refine J.keepE [(0, _), (4, _), (5, _), (9, _)] ⟨rfl, rfl, rfl, rfl, trivial⟩ ?_
  refine J.condF rfl rfl ?_
  refine J.skip ?_
  refine J.then_n (J.k hK2 ?_)
  refine J.keepE [(0, _), (4, _), (5, _)] ⟨rfl, rfl, rfl, trivial⟩ ?_
  refine J.seq (fun K4 hK4 => ?_)
  refine J.region ?_
  refine J.y (op_move rfl rfl) rfl rfl rfl ?_
  refine J.e (op_call rfl rfl ent63 (Ct.use (new := fun x : Option Addr × Nat × Hp => [x.2.2]) (fun F' hF => tkeys_ct F' g l (hT.mono (hF F (by simp))) (by omega)))) rfl rfl rfl ?_
  rintro ⟨A11, c11, m11⟩ h11
  try dsimp only at h11
  change J _ ((11, .slice A11 (Sm.keysS l).length c11) :: _) _ [F, blk g4 [Str (b)] 9, blk g5 [I (d)] 3, m11] _
  refine J.y (op_makeFunc rfl rfl) rfl rfl rfl ?_
  refine J.e (op_call rfl rfl ent65 (Ct.use1 3 (m' := fun x : Hp => x) (new := fun _ => []) rfl (fun F' hF => sdel_ct F' m11 A11 (Sm.keysS l).length c11 (Sm.keysS l) h11 (by omega) (keysS_small hf.k16) g4 g5 b d (Cells.blk0.mono (hF (blk g4 [Str (b)] 9) (by simp))) (Cells.blk0.mono (hF (blk g5 [I (d)] 3) (by simp))) hb))) rfl rfl rfl ?_
  rintro m13 h13
  change J _ ((13, .slice A11 ((Sm.keysS l).filter fun k => !nbl b d k).length c11) :: _) _ [F, blk g4 [Str (b)] 9, blk g5 [I (d)] 3, m13] _
  refine J.y (op_assign rfl rfl) rfl rfl rfl ?_
  refine J.nil ?_
  refine J.then_n (J.k hK4 ?_)
  refine J.keepE [(0, _), (5, _), (7, _)] ⟨rfl, rfl, rfl, trivial⟩ ?_
  refine J.seq (fun K5 hK5 => ?_)
  refine J.region ?_
  refine J.y (op_move rfl rfl) rfl rfl rfl ?_
  refine J.y (op_move rfl rfl) rfl rfl rfl ?_
  refine J.y (op_loadB 2 (v := I (d)) rfl rfl rfl Tryd.isAgg3 rfl) rfl rfl rfl ?_
  refine J.y ((op_max rfl rfl rfl).as (v' := I ((d.toNat : Nat) : Int)) (congrArg I (by omega))) rfl rfl rfl ?_
  refine J.y ((op_min rfl rfl rfl).as (v' := I ((min d.toNat 128 : Nat) : Int)) (congrArg I (by omega))) rfl rfl rfl ?_
  refine J.e (op_call rfl rfl ent74 (Ct.use0 (fun F' hF => tnode_ok (128 - min d.toNat 128) F' (hK.mono (hF F (by simp))) g l (hT.mono (hF F (by simp))) hf.small A11 _ c11 _ (h13.sl.mono (hF m13 (by simp))) (by omega) hW hU (min d.toNat 128) (by omega)))) rfl rfl rfl ?_
  intro g19 _
  refine J.y (op_assign rfl rfl) rfl rfl rfl ?_
  refine J.nil ?_
  refine J.then_n (J.k hK5 ?_)
  refine J.keepE [(6, _)] ⟨rfl, trivial⟩ ?_
  refine J.ret ?_
  exact J.done hw0 (fun _ _ h => h) (res1 rfl rfl) (retOk () (by rw [hR]) trivial [0] rfl (by decide))

theorem wf_zero {l : List Sm.PR} {b : List UInt8} (hf : Fine l) : Sm.WF (128 - min (0 : Int).toNat 128) (Sm.bel l b (min (0 : Int).toNat 128)) := by
  show Sm.WF 128 (Sm.bel l b 0)
  rw [Sm.bel_zero]; exact Sm.WF.top hf.once hf.k16
theorem wf_bel {l : List Sm.PR} {b : List UInt8} {d : Int} (hf : Fine l) (hb : b.length = 16) : Sm.WF (128 - min d.toNat 128) (Sm.bel l b (min d.toNat 128)) := Sm.bel_wf hf.once hf.k16 hb (Nat.min_le_right _ _)

theorem troot_ct (F : Hp) (hK : Cells F ⟨1, 0, none⟩ (Sha.K.map W32)) (g : Nat) (l : List Sm.PR) (hT : TreeA F g l) (hf : Fine l) : Ct Tryd.prog 48 [Ptr g] [F] (fun _ : Unit => Str (Sm.nd 128 l)) (fun _ => True) (fun _ => [F]) := by
  refine Ct.walk Tryd.func48 rfl Tryd.ntmps48 rfl (fun w0 hw0 => ?_)
  change J _ [(0, _)] _ _ _
  refine J.seq (fun K1 hK1 => ?_)
  refine J.region ?_
  refine J.y (op_assign rfl rfl) rfl rfl rfl ?_
  refine J.nil ?_
  refine J.then_n (J.k hK1 ?_)
  refine J.keepE [(0, _)] ⟨rfl, trivial⟩ ?_
  refine J.seq (fun K2 hK2 => ?_)
  refine J.region ?_
  refine J.y (op_move rfl rfl) rfl rfl rfl ?_
  refine J.e (op_call rfl rfl ent30 (Ct.use0 (fun F' hF => tNode_ct F' (hK.mono (hF F (by simp))) g l (hT.mono (hF F (by simp))) (by assumption) ([]) (by first | omega | decide) ((0 : Nat) : Int) (by first | assumption | exact wf_zero (by assumption) | exact wf_bel (by assumption) (by assumption))))) rfl rfl rfl ?_
  intro g4 _
  refine J.y (op_assign rfl rfl) rfl rfl rfl ?_
  refine J.nil ?_
  refine J.then_n (J.k hK2 ?_)
  refine J.keepE [(2, _)] ⟨rfl, trivial⟩ ?_
  refine J.ret ?_
  exact J.done hw0 (fun _ _ h => h) (res1 rfl rfl) (retOk () (by rw [← Sm.ndB_zero l []]; rfl) trivial [0] rfl (by decide))

end Go.Proofs.YtnkfapecbmmpeaaDoor
