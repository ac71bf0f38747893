/- A part of the proof: contracts of functions of the program, each for every state of the heaps that it names. -/
import Derived.Test.YtpcffgkmpmcobaaDoorSmt4
set_option linter.unusedSimpArgs false
set_option linter.unusedVariables false
namespace Go.Proofs.YtpcffgkmpmcobaaDoor
open Go Go.Fw
set_option maxRecDepth 100000
set_option maxHeartbeats 1000000
theorem ent49 : Enters Tryd.prog 49 := Enters.of Tryd.func49 rfl (by kernel_rfl)
theorem ent70 : Enters Tryd.prog 70 := Enters.of Tryd.func70 rfl (by kernel_rfl)
theorem ent104 : Enters Tryd.prog 104 := Enters.of Tryd.func104 rfl (by kernel_rfl)
theorem el84 : Elem Tryd.prog 84 [Str [], Str []] 32 := Elem.of (by kernel_rfl) rfl

def RefOk (f : Nat) : Prop := ∀ (F : Hp) (A : Option Addr) (n c : Nat) (m : List Pr) (hs : Sl F 2 A n c (prsV m)) (hn : n ≤ 1000000) (hw : Sm.WF f (m.map toP)) (hv : ∀ p ∈ m, p.v.length ≤ 1000000) (d : Nat) (hd : d + f = 128), Ct Tryd.prog 49 [.slice A n c, I ((d : Nat) : Int)] [F] (fun _ : Unit => Str (Sm.nd f (m.map toP))) (fun _ => True) (fun _ => [F])
/-- the pairs on a side, as the document's rows have them -/
def sideR (f : Nat) (t : Bool) (m : List Pr) : List Pr := m.filter fun p => decide (Sm.kv p.k / 2 ^ f % 2 = 0) == t
theorem sideR_map (f : Nat) (t : Bool) (m : List Pr) : (sideR f t m).map toP = Sm.side f t (m.map toP) := by
  unfold sideR Sm.side
  rw [List.filter_map]; rfl
theorem ref_key {f : Nat} {m : List Pr} (hw : Sm.WF f (m.map toP)) {j : Nat} (hj : j < m.length) : (m.getD j noPr).k.length = 16 := by
  rw [List.getD_eq_getElem?_getD, List.getElem?_eq_getElem hj]
  exact hw.2.1 (toP m[j]) (List.mem_map.2 ⟨_, List.getElem_mem hj, rfl⟩)
theorem ref_small {f : Nat} {m : List Pr} (hw : Sm.WF f (m.map toP)) (j : Nat) : (m.getD j noPr).k.length ≤ 1000000 := by
  by_cases hj : j < m.length
  · rw [ref_key hw hj]; decide
  · rw [List.getD_eq_getElem?_getD, List.getElem?_eq_none (by omega)]; exact Nat.zero_le _
theorem ref_val {m : List Pr} (hv : ∀ p ∈ m, p.v.length ≤ 1000000) (j : Nat) : (m.getD j noPr).v.length ≤ 1000000 := by
  by_cases hj : j < m.length
  · rw [List.getD_eq_getElem?_getD, List.getElem?_eq_getElem hj]; exact hv _ (List.getElem_mem hj)
  · rw [List.getD_eq_getElem?_getD, List.getElem?_eq_none (by omega)]; exact Nat.zero_le _
theorem sideR_take {f d : Nat} {m : List Pr} (hw : Sm.WF (f + 1) (m.map toP)) (hd : d + (f + 1) = 128) {i : Nat} (hi : i < m.length) (t : Bool) :
    sideR f t (m.take (i + 1)) = sideR f t (m.take i) ++ if (decide (Sm.bit (m.getD i noPr).k d = 0) == t) = true then [m.getD i noPr] else [] := by
  unfold sideR
  rw [List.take_succ_eq_append_getElem hi, List.filter_append, List.filter_cons, List.filter_nil, Sm.bit_kv (ref_key hw hi) (by omega), show 127 - d = f by omega, List.getD_eq_getElem?_getD, List.getElem?_eq_getElem hi]
  rfl
theorem sideR_yes {f d : Nat} {m : List Pr} (hw : Sm.WF (f + 1) (m.map toP)) (hd : d + (f + 1) = 128) {i : Nat} (hi : i < m.length) (h : Sm.bit (m.getD i noPr).k d = 0) :
    sideR f true (m.take (i + 1)) = sideR f true (m.take i) ++ [m.getD i noPr] ∧ sideR f false (m.take (i + 1)) = sideR f false (m.take i) := by
  constructor
  · rw [sideR_take hw hd hi, decide_eq_true h]; rfl
  · rw [sideR_take hw hd hi, decide_eq_true h]; exact List.append_nil _
theorem sideR_no {f d : Nat} {m : List Pr} (hw : Sm.WF (f + 1) (m.map toP)) (hd : d + (f + 1) = 128) {i : Nat} (hi : i < m.length) (h : ¬ Sm.bit (m.getD i noPr).k d = 0) :
    sideR f true (m.take (i + 1)) = sideR f true (m.take i) ∧ sideR f false (m.take (i + 1)) = sideR f false (m.take i) ++ [m.getD i noPr] := by
  constructor
  · rw [sideR_take hw hd hi, decide_eq_false h]; exact List.append_nil _
  · rw [sideR_take hw hd hi, decide_eq_false h]; rfl
theorem sideR_len (f : Nat) (t : Bool) (m : List Pr) : (sideR f t m).length ≤ m.length := List.length_filter_le _ _
theorem join_nn {a b : List UInt8} (ha : a ≠ []) (hb : b ≠ []) : Sb.join a b ≠ [] := by
  have e : Sb.join a b = if a = [0] ∧ (b = [0] ∨ Sb.isLf b) then b else if b = [0] ∧ Sb.isLf a then a else 2 :: Sha.tagged 10 [a, b] := by unfold Sb.join; rfl
  rw [e]
  split
  · exact hb
  · split
    · exact ha
    · exact List.cons_ne_nil _ _
theorem nd_nn : ∀ {f : Nat} {l : List Sm.PR}, Sm.WF f l → Sm.nd f l ≠ []
  | f, [], _ => by rw [Sm.nd_nil]; exact List.cons_ne_nil _ _
  | f, [p], _ => by rw [Sm.nd_one]; unfold Sb.leafN; exact List.cons_ne_nil _ _
  | 0, a :: b :: r, hw => by have := hw.short; simp at this
  | f + 1, a :: b :: r, hw => by rw [Sm.nd_two f (by simp)]; exact join_nn (nd_nn (hw.side true)) (nd_nn (hw.side false))
/-- the document's way to join -/
theorem join_ref {x y : List UInt8} {e1 e2 : Prop} (h1 : x = [0] ↔ e1) (h2 : y = [0] ↔ e2) (hn : ¬ (e1 ∧ e2)) : (e1 ∧ Sb.isLf y → Sb.join x y = y) ∧ (¬ (e1 ∧ Sb.isLf y) → e2 ∧ Sb.isLf x → Sb.join x y = x) ∧ (¬ (e1 ∧ Sb.isLf y) → ¬ (e2 ∧ Sb.isLf x) → Sb.join x y = 2 :: Sha.tagged 10 [x, y]) := by
  have e : Sb.join x y = if x = [0] ∧ (y = [0] ∨ Sb.isLf y) then y else if y = [0] ∧ Sb.isLf x then x else 2 :: Sha.tagged 10 [x, y] := by unfold Sb.join; rfl
  obtain rfl : e1 = (x = [0]) := propext h1.symm
  obtain rfl : e2 = (y = [0]) := propext h2.symm
  rw [e]
  refine ⟨fun h => by rw [if_pos ⟨h.1, .inr h.2⟩], fun h h3 => ?_, fun h h3 => ?_⟩
  · rw [if_neg (fun q => q.2.elim (fun q2 => hn ⟨q.1, q2⟩) (fun q2 => h ⟨q.1, q2⟩)), if_pos h3]
  · rw [if_neg (fun q => q.2.elim (fun q2 => hn ⟨q.1, q2⟩) (fun q2 => h ⟨q.1, q2⟩)), if_neg h3]
theorem nd_one0 {f : Nat} {l : List Sm.PR} (hw : Sm.WF f l) : (Sm.nd f l).getD 0 0 = 1 ↔ Sb.isLf (Sm.nd f l) := by
  have h0 := nd_nn hw
  unfold Sb.isLf
  cases h : Sm.nd f l with
  | nil => exact absurd h h0
  | cons a r => simp
theorem sideR_sum (f : Nat) (m : List Pr) : (sideR f true m).length + (sideR f false m).length = m.length := by
  have h := Sm.side_len f (m.map toP)
  rw [← sideR_map, ← sideR_map, List.length_map, List.length_map, List.length_map] at h
  exact h
/-- how the document joins both halves -/
theorem ref_join {f : Nat} {m : List Pr} (hw : Sm.WF (f + 1) (m.map toP)) (h2 : 2 ≤ m.length) {x y : List UInt8} (hx : x = Sm.nd f ((sideR f true m).map toP)) (hy : y = Sm.nd f ((sideR f false m).map toP)) :
    (0 < x.length ∧ x.length ≤ 17) ∧ (0 < y.length ∧ y.length ≤ 17) ∧ ((sideR f true m).length = 0 ∧ (y.getD 0 0).toNat = 1 → Sm.nd (f + 1) (m.map toP) = y) ∧
    (¬ ((sideR f true m).length = 0 ∧ (y.getD 0 0).toNat = 1) → (sideR f false m).length = 0 ∧ (x.getD 0 0).toNat = 1 → Sm.nd (f + 1) (m.map toP) = x) ∧
    (¬ ((sideR f true m).length = 0 ∧ (y.getD 0 0).toNat = 1) → ¬ ((sideR f false m).length = 0 ∧ (x.getD 0 0).toNat = 1) → Sm.nd (f + 1) (m.map toP) = [2] ++ Sha.tagged 10 [x, y]) := by
  subst hx hy
  have w1 := hw.side true
  have w2 := hw.side false
  rw [← sideR_map] at w1 w2
  have l1 : Sb.isLf (Sm.nd f ((sideR f true m).map toP)) ↔ ((Sm.nd f ((sideR f true m).map toP)).getD 0 0).toNat = 1 := (nd_one0 w1).symm.trans ⟨fun h => by rw [h]; rfl, fun h => UInt8.toNat_inj.1 h⟩
  have l2 : Sb.isLf (Sm.nd f ((sideR f false m).map toP)) ↔ ((Sm.nd f ((sideR f false m).map toP)).getD 0 0).toNat = 1 := (nd_one0 w2).symm.trans ⟨fun h => by rw [h]; rfl, fun h => UInt8.toNat_inj.1 h⟩
  have e1 : Sm.nd f ((sideR f true m).map toP) = [0] ↔ (sideR f true m).length = 0 := (Sm.nd_eq0 w1).trans (by rw [List.map_eq_nil_iff, List.length_eq_zero_iff])
  have e2 : Sm.nd f ((sideR f false m).map toP) = [0] ↔ (sideR f false m).length = 0 := (Sm.nd_eq0 w2).trans (by rw [List.map_eq_nil_iff, List.length_eq_zero_iff])
  have hs := sideR_sum f m
  obtain ⟨j1, j2, j3⟩ := join_ref e1 e2 (by omega)
  rw [l1, l2] at j2 j3
  rw [l2] at j1
  have hj : Sm.nd (f + 1) (m.map toP) = Sb.join (Sm.nd f ((sideR f true m).map toP)) (Sm.nd f ((sideR f false m).map toP)) := by rw [Sm.nd_two f (by rw [List.length_map]; exact h2), sideR_map, sideR_map]
  rw [hj]
  exact ⟨⟨List.length_pos_iff.2 (nd_nn w1), Sm.nd_small _ _⟩, ⟨List.length_pos_iff.2 (nd_nn w2), Sm.nd_small _ _⟩, j1, j2, j3⟩

theorem rnode_step (f : Nat) (ih : ∀ f', f = f' + 1 → RefOk f') (F : Hp) (A : Option Addr) (n c : Nat) (m : List Pr) (hs : Sl F 2 A n c (prsV m)) (hn : n ≤ 1000000) (hw : Sm.WF f (m.map toP)) (hv : ∀ p ∈ m, p.v.length ≤ 1000000) (d : Nat) (hd : d + f = 128) :
    Ct Tryd.prog 49 [.slice A n c, I ((d : Nat) : Int)] [F] (fun _ : Unit => Str (Sm.nd f (m.map toP))) (fun _ => True) (fun _ => [F]) := by
  have hkn : m.length = n := by have := hs.1; simpa [prsV] using this
  have hsm := ref_small hw
  refine Ct.walk Tryd.func49 rfl Tryd.ntmps49 rfl (fun w0 hw0 => ?_)
  change J _ [(0, _), (1, _)] _ _ _
  refine J.seq (fun K1 hK1 => ?_)
  refine J.region ?_
  refine J.y (op_assign rfl rfl) rfl rfl rfl ?_
  refine J.nil ?_
  refine J.then_n (J.k hK1 ?_)
  refine J.keepE [(0, _), (1, _)] ⟨rfl, rfl, trivial⟩ ?_
  refine J.seq (fun K2 hK2 => ?_)
  refine J.seq (fun K3 hK3 => ?_)
  refine J.region ?_
  refine J.y (op_move rfl rfl) rfl rfl rfl ?_
  refine J.y (op_len Tryd.underlying75 rfl rfl) rfl rfl rfl ?_
  refine J.y (op_eql rfl rfl rfl) rfl rfl rfl ?_
  refine J.nil ?_
  refine J.then_n (J.k hK3 ?_)
  refine J.keepE [(0, _), (1, _), (12, _)] ⟨rfl, rfl, rfl, trivial⟩ ?_
  refine J.ite rfl (fun h12 => ?_) (fun h12 => ?_)
  ·
    refine J.seq (fun K4 hK4 => ?_)
    refine J.region ?_
    refine J.y (op_assign rfl rfl) rfl rfl rfl ?_
    refine J.nil ?_
    refine J.then_n (J.k hK4 ?_)
    refine J.keepE [(4, _)] ⟨rfl, trivial⟩ ?_
    refine J.ret ?_
    refine J.then_r ?_
    exact J.done hw0 (fun _ _ h => h) (res1 rfl rfl) (retOk () (by rw [List.eq_nil_of_length_eq_zero (show m.length = 0 by omega)]; show _ = Str (Sm.nd f []); rw [Sm.nd_nil]) trivial [0] rfl (by decide))
  ·
    refine J.skip ?_
    refine J.then_n (J.k hK2 ?_)
    refine J.keepE [(0, _), (1, _)] ⟨rfl, rfl, trivial⟩ ?_
    refine J.seq (fun K5 hK5 => ?_)
    refine J.seq (fun K6 hK6 => ?_)
    refine J.region ?_
    refine J.y (op_move rfl rfl) rfl rfl rfl ?_
    refine J.y (op_len Tryd.underlying75 rfl rfl) rfl rfl rfl ?_
    refine J.y (op_eql rfl rfl rfl) rfl rfl rfl ?_
    refine J.nil ?_
    refine J.then_n (J.k hK6 ?_)
    refine J.keepE [(0, _), (1, _), (15, _)] ⟨rfl, rfl, rfl, trivial⟩ ?_
    refine J.ite rfl (fun h15 => ?_) (fun h15 => ?_)
    ·
      refine J.seq (fun K7 hK7 => ?_)
      have hk0 := hsm 0
      have hv0 := ref_val hv 0
      refine J.region ?_
      refine J.y (op_move rfl rfl) rfl rfl rfl ?_
      refine J.y (op_indexAddr (i := 0) rfl rfl rfl Tryd.underlying75 Tryd.sizeOf84 hs (by first | omega | (simp only [List.length_append, List.length_cons, List.length_nil, List.length_take, List.length_drop, Sha.tagged_length] at *; omega))) rfl rfl rfl ?_
      refine J.y (op_loadA (vs := [Str ((m.getD 0 noPr).k), Str ((m.getD 0 noPr).v)]) rfl rfl Tryd.isAgg84 Tryd.sizeOf84 (m := F) (by simp) (hs.elem (prsV_get (by first | omega | (simp only [List.length_append, List.length_cons, List.length_nil, List.length_take, List.length_drop, Sha.tagged_length] at *; omega)))) rfl) rfl rfl rfl ?_
      refine J.e (op_call rfl rfl ent104 (Ct.use0 (fun F' hF => leafr_ct F' ((m.getD 0 noPr).k) ((m.getD 0 noPr).v) (by omega) (by omega)))) rfl rfl rfl ?_
      intro g19 _
      refine J.y (op_assign rfl rfl) rfl rfl rfl ?_
      refine J.nil ?_
      refine J.then_n (J.k hK7 ?_)
      refine J.keepE [(4, _)] ⟨rfl, trivial⟩ ?_
      refine J.ret ?_
      refine J.then_r ?_
      exact J.done hw0 (fun _ _ h => h) (res1 rfl rfl) (retOk () (by obtain ⟨p, rfl⟩ := List.length_eq_one_iff.1 (show m.length = 1 by omega); exact (congrArg Str (Sm.nd_one f (toP p))).symm) trivial [0] rfl (by decide))
    ·
      obtain ⟨f', rfl⟩ : ∃ f', f = f' + 1 := Nat.exists_eq_succ_of_ne_zero (fun e => by subst e; have := hw.short; rw [List.length_map] at this; omega)
      refine J.skip ?_
      refine J.then_n (J.k hK5 ?_)
      refine J.keepE [(0, _), (1, _)] ⟨rfl, rfl, trivial⟩ ?_
      refine J.seq (fun K8 hK8 => ?_)
      refine J.region ?_
      refine J.y (op_assign rfl rfl) rfl rfl rfl ?_
      refine J.y (op_assign rfl rfl) rfl rfl rfl ?_
      refine J.nil ?_
      refine J.then_n (J.k hK8 ?_)
      refine J.keepE [(0, _), (1, _), (5, _), (6, _)] ⟨rfl, rfl, rfl, rfl, trivial⟩ ?_
      refine J.seq (fun K9 hK9 => ?_)
      refine J.seq (fun K10 hK10 => ?_)
      refine J.region ?_
      refine J.y (op_assign rfl rfl) rfl rfl rfl ?_
      refine J.nil ?_
      refine J.then_n (J.k hK10 ?_)
      refine J.keepE [(0, _), (1, _), (5, _), (6, _), (7, _)] ⟨rfl, rfl, rfl, rfl, rfl, trivial⟩ ?_
      refine J.block ?_
      refine J.loop (X := Nat × Option Addr × Nat × Hp × Option Addr × Nat × Hp) (fun ζ => [(0, .slice A n c), (1, I ((d : Nat) : Int)), (5, .slice ζ.2.1 ((sideR f' true (m.take ζ.1)).length) ζ.2.2.1), (6, .slice ζ.2.2.2.2.1 ((sideR f' false (m.take ζ.1)).length) ζ.2.2.2.2.2.1), (7, I ((ζ.1 : Nat) : Int))]) (fun ζ => [F, ζ.2.2.2.1, ζ.2.2.2.2.2.2]) (fun ζ => ζ.1 ≤ n ∧ Row ζ.2.2.2.1 84 2 ζ.2.1 (sideR f' true (m.take ζ.1)).length ζ.2.2.1 (prsV (sideR f' true (m.take ζ.1))) ∧ Row ζ.2.2.2.2.2.2 84 2 ζ.2.2.2.2.1 (sideR f' false (m.take ζ.1)).length ζ.2.2.2.2.2.1 (prsV (sideR f' false (m.take ζ.1)))) (fun ζ => n - ζ.1) (0, none, 0, (fun _ => none), none, 0, (fun _ => none)) (⟨Nat.zero_le _, RowQ.nil, RowQ.nil⟩) ⟨rfl, rfl, rfl, rfl, rfl, trivial⟩ (fun _ h => h.empty.empty.pick [0, 1, 2] (by decide)) ?_
      rintro ⟨i, Aa, ca, ma, Ab, cb, mb⟩ ⟨hi, hra, hrb⟩ I0 hI0
      dsimp only at hi hra hrb ⊢
      have hsi := hsm i
      have hla := sideR_len f' true (m.take i)
      have hlb := sideR_len f' false (m.take i)
      rw [List.length_take] at hla hlb
      refine J.seq (fun K11 hK11 => ?_)
      refine J.seq (fun K12 hK12 => ?_)
      refine J.region ?_
      refine J.y (op_move rfl rfl) rfl rfl rfl ?_
      refine J.y (op_move rfl rfl) rfl rfl rfl ?_
      refine J.y (op_len Tryd.underlying75 rfl rfl) rfl rfl rfl ?_
      refine J.y (op_lss rfl rfl rfl) rfl rfl rfl ?_
      refine J.nil ?_
      refine J.then_n (J.k hK12 ?_)
      refine J.keepE [(0, _), (1, _), (5, _), (6, _), (7, _), (23, _)] ⟨rfl, rfl, rfl, rfl, rfl, rfl, trivial⟩ ?_
      refine J.ite rfl (fun h23 => ?_) (fun h23 => ?_)
      ·
        refine J.skip ?_
        refine J.then_n (J.k hK11 ?_)
        refine J.keepE [(0, _), (1, _), (5, _), (6, _), (7, _)] ⟨rfl, rfl, rfl, rfl, rfl, trivial⟩ ?_
        refine J.seq (fun K13 hK13 => ?_)
        refine J.block ?_
        refine J.seq (fun K14 hK14 => ?_)
        refine J.region ?_
        refine J.y (op_move rfl rfl) rfl rfl rfl ?_
        refine J.y (op_move rfl rfl) rfl rfl rfl ?_
        refine J.y (op_indexAddr (i := i) rfl rfl rfl Tryd.underlying75 Tryd.sizeOf84 hs (by first | omega | (simp only [List.length_append, List.length_cons, List.length_nil, List.length_take, List.length_drop, Sha.tagged_length] at *; omega))) rfl rfl rfl ?_
        refine J.y (op_fieldAddrE (off := 0) rfl rfl Tryd.underlying84 rfl Tryd.sizeOf9 hs (by first | omega | (simp only [List.length_append, List.length_cons, List.length_nil, List.length_take, List.length_drop, Sha.tagged_length] at *; omega)) rfl) rfl rfl rfl ?_
        refine J.y (op_load (v := Str ((m.getD i noPr).k)) rfl rfl Tryd.isAgg9 (m := F) (by simp) (hs.part (prsV_get (by first | omega | (simp only [List.length_append, List.length_cons, List.length_nil, List.length_take, List.length_drop, Sha.tagged_length] at *; omega))) 0 1)) rfl rfl rfl ?_
        refine J.y (op_move rfl rfl) rfl rfl rfl ?_
        refine J.e (op_call rfl rfl ent70 (Ct.use0 (fun F' hF => bitr_ct F' ((m.getD i noPr).k) (by omega) d (by omega)))) rfl rfl rfl ?_
        intro g32 _
        refine J.y (op_eql rfl rfl rfl) rfl rfl rfl ?_
        refine J.nil ?_
        refine J.then_n (J.k hK14 ?_)
        refine J.keepE [(0, _), (1, _), (5, _), (6, _), (7, _), (33, _)] ⟨rfl, rfl, rfl, rfl, rfl, rfl, trivial⟩ ?_
        refine J.ite rfl (fun h33 => ?_) (fun h33 => ?_)
        ·
          obtain ⟨hy1, hy2⟩ := sideR_yes hw hd (i := i) (by omega) (by omega)
          refine J.region ?_
          refine J.y (op_move rfl rfl) rfl rfl rfl ?_
          refine J.y (op_move rfl rfl) rfl rfl rfl ?_
          refine J.y (op_move rfl rfl) rfl rfl rfl ?_
          refine J.y (op_indexAddr (i := i) rfl rfl rfl Tryd.underlying75 Tryd.sizeOf84 hs (by first | omega | (simp only [List.length_append, List.length_cons, List.length_nil, List.length_take, List.length_drop, Sha.tagged_length] at *; omega))) rfl rfl rfl ?_
          refine J.y (op_loadA (vs := [Str ((m.getD i noPr).k), Str ((m.getD i noPr).v)]) rfl rfl Tryd.isAgg84 Tryd.sizeOf84 (m := F) (by simp) (hs.elem (prsV_get (by first | omega | (simp only [List.length_append, List.length_cons, List.length_nil, List.length_take, List.length_drop, Sha.tagged_length] at *; omega)))) rfl) rfl rfl rfl ?_
          refine J.e (op_buildSlice (l := [.tmp 38]) (xs := [[Str ((m.getD i noPr).k), Str ((m.getD i noPr).v)]]) rfl rfl rfl rfl Tryd.underlying75 el84 rfl (by decide) (by decide) (by simp)) rfl rfl rfl ?_
          intro g39 _
          change J _ _ _ [F, ma, mb, blk g39 [Str ((m.getD i noPr).k), Str ((m.getD i noPr).v)] 84] _
          refine J.e (op_append (i := 1) (xs := prsV (sideR f' true (m.take i))) (m2 := blk g39 [Str ((m.getD i noPr).k), Str ((m.getD i noPr).v)] 84) (ys := [[Str ((m.getD i noPr).k), Str ((m.getD i noPr).v)]]) rfl rfl rfl Tryd.underlying75 Tryd.underlying75 el84 rfl hra (by simp) ((row_blk (q := True) (xs := prsV [(m.getD i noPr)]) rfl (by intro x hx; rw [List.mem_singleton.1 hx]; rfl)).sl) rfl (by first | omega | (simp only [List.length_append, List.length_cons, List.length_nil, List.length_take, List.length_drop, Sha.tagged_length] at *; omega)) (by first | omega | (simp only [List.length_append, List.length_cons, List.length_nil, List.length_take, List.length_drop, Sha.tagged_length] at *; omega))) rfl rfl rfl ?_
          rintro ⟨A40, c40, m40⟩ h40
          try dsimp only at h40
          change J _ ((40, .slice A40 (((sideR f' true (m.take i)).length) + 1) c40) :: _) _ [F, m40, mb, blk g39 [Str ((m.getD i noPr).k), Str ((m.getD i noPr).v)] 84] _
          replace h40 : Row m40 84 2 A40 (((sideR f' true (m.take i)).length) + 1) c40 (prsV ((sideR f' true (m.take i)) ++ ([(m.getD i noPr)]))) := by rw [prsV_snoc]; exact h40
          refine J.y (op_assign rfl rfl) rfl rfl rfl ?_
          refine J.nil ?_
          refine J.blk_n ?_
          refine J.then_n (J.k hK13 ?_)
          refine J.keepE [(0, _), (1, _), (5, _), (6, _), (7, _)] ⟨rfl, rfl, rfl, rfl, rfl, trivial⟩ ?_
          refine J.region ?_
          refine J.y (op_move rfl rfl) rfl rfl rfl ?_
          refine J.y ((op_add rfl rfl rfl (by first | omega | (simp only [List.length_append, List.length_cons, List.length_nil, List.length_take, List.length_drop, Sha.tagged_length] at *; omega))).as (v' := I ((i + 1 : Nat) : Int)) (congrArg I (by omega))) rfl rfl rfl ?_
          refine J.y (op_assign rfl rfl) rfl rfl rfl ?_
          refine J.nil ?_
          refine J.then_n ?_
          exact J.kk (i + 1, A40, c40, m40, Ab, cb, mb) (fun η (hη : _ ∧ n - η.1 < n - i) => hI0 η hη.1 hη.2) ⟨⟨by dsimp only; omega, by dsimp only; rw [hy1, List.length_append]; exact h40, by dsimp only; rw [hy2]; exact hrb⟩, by first | omega | (dsimp only; omega)⟩ ⟨rfl, rfl, by dsimp only; first | rfl | (rw [hy1, List.length_append]; rfl) | (rw [hy1]; rfl), by dsimp only; first | rfl | (rw [hy2, List.length_append]; rfl) | (rw [hy2]; rfl), rfl, trivial⟩ (fun _ h => h.pick [0, 1, 2] (by decide))
        ·
          obtain ⟨hy1, hy2⟩ := sideR_no hw hd (i := i) (by omega) (by omega)
          refine J.region ?_
          refine J.y (op_move rfl rfl) rfl rfl rfl ?_
          refine J.y (op_move rfl rfl) rfl rfl rfl ?_
          refine J.y (op_move rfl rfl) rfl rfl rfl ?_
          refine J.y (op_indexAddr (i := i) rfl rfl rfl Tryd.underlying75 Tryd.sizeOf84 hs (by first | omega | (simp only [List.length_append, List.length_cons, List.length_nil, List.length_take, List.length_drop, Sha.tagged_length] at *; omega))) rfl rfl rfl ?_
          refine J.y (op_loadA (vs := [Str ((m.getD i noPr).k), Str ((m.getD i noPr).v)]) rfl rfl Tryd.isAgg84 Tryd.sizeOf84 (m := F) (by simp) (hs.elem (prsV_get (by first | omega | (simp only [List.length_append, List.length_cons, List.length_nil, List.length_take, List.length_drop, Sha.tagged_length] at *; omega)))) rfl) rfl rfl rfl ?_
          refine J.e (op_buildSlice (l := [.tmp 45]) (xs := [[Str ((m.getD i noPr).k), Str ((m.getD i noPr).v)]]) rfl rfl rfl rfl Tryd.underlying75 el84 rfl (by decide) (by decide) (by simp)) rfl rfl rfl ?_
          intro g46 _
          change J _ _ _ [F, ma, mb, blk g46 [Str ((m.getD i noPr).k), Str ((m.getD i noPr).v)] 84] _
          refine J.e (op_append (i := 2) (xs := prsV (sideR f' false (m.take i))) (m2 := blk g46 [Str ((m.getD i noPr).k), Str ((m.getD i noPr).v)] 84) (ys := [[Str ((m.getD i noPr).k), Str ((m.getD i noPr).v)]]) rfl rfl rfl Tryd.underlying75 Tryd.underlying75 el84 rfl hrb (by simp) ((row_blk (q := True) (xs := prsV [(m.getD i noPr)]) rfl (by intro x hx; rw [List.mem_singleton.1 hx]; rfl)).sl) rfl (by first | omega | (simp only [List.length_append, List.length_cons, List.length_nil, List.length_take, List.length_drop, Sha.tagged_length] at *; omega)) (by first | omega | (simp only [List.length_append, List.length_cons, List.length_nil, List.length_take, List.length_drop, Sha.tagged_length] at *; omega))) rfl rfl rfl ?_
          rintro ⟨A47, c47, m47⟩ h47
          try dsimp only at h47
          change J _ ((47, .slice A47 (((sideR f' false (m.take i)).length) + 1) c47) :: _) _ [F, ma, m47, blk g46 [Str ((m.getD i noPr).k), Str ((m.getD i noPr).v)] 84] _
          replace h47 : Row m47 84 2 A47 (((sideR f' false (m.take i)).length) + 1) c47 (prsV ((sideR f' false (m.take i)) ++ ([(m.getD i noPr)]))) := by rw [prsV_snoc]; exact h47
          refine J.y (op_assign rfl rfl) rfl rfl rfl ?_
          refine J.nil ?_
          refine J.blk_n ?_
          refine J.then_n (J.k hK13 ?_)
          refine J.keepE [(0, _), (1, _), (5, _), (6, _), (7, _)] ⟨rfl, rfl, rfl, rfl, rfl, trivial⟩ ?_
          refine J.region ?_
          refine J.y (op_move rfl rfl) rfl rfl rfl ?_
          refine J.y ((op_add rfl rfl rfl (by first | omega | (simp only [List.length_append, List.length_cons, List.length_nil, List.length_take, List.length_drop, Sha.tagged_length] at *; omega))).as (v' := I ((i + 1 : Nat) : Int)) (congrArg I (by omega))) rfl rfl rfl ?_
          refine J.y (op_assign rfl rfl) rfl rfl rfl ?_
          refine J.nil ?_
          refine J.then_n ?_
          exact J.kk (i + 1, Aa, ca, ma, A47, c47, m47) (fun η (hη : _ ∧ n - η.1 < n - i) => hI0 η hη.1 hη.2) ⟨⟨by dsimp only; omega, by dsimp only; rw [hy1]; exact hra, by dsimp only; rw [hy2, List.length_append]; exact h47⟩, by first | omega | (dsimp only; omega)⟩ ⟨rfl, rfl, by dsimp only; first | rfl | (rw [hy1, List.length_append]; rfl) | (rw [hy1]; rfl), by dsimp only; first | rfl | (rw [hy2, List.length_append]; rfl) | (rw [hy2]; rfl), rfl, trivial⟩ (fun _ h => h.pick [0, 1, 2] (by decide))
      ·
        refine J.exit ?_
        refine J.then_x ?_
        refine J.then_x ?_
        refine J.blk_eq ?_
        refine J.then_n (J.k hK9 ?_)
        refine J.keepE [(1, _), (5, _), (6, _)] ⟨rfl, rfl, rfl, trivial⟩ ?_
        refine J.seq (fun K15 hK15 => ?_)
        obtain rfl : i = m.length := by omega
        rw [List.take_length] at hra hrb ⊢
        refine J.region ?_
        refine J.y (op_move rfl rfl) rfl rfl rfl ?_
        refine J.y (op_move rfl rfl) rfl rfl rfl ?_
        refine J.y ((op_add rfl rfl rfl (by first | omega | (simp only [List.length_append, List.length_cons, List.length_nil, List.length_take, List.length_drop, Sha.tagged_length] at *; omega))).as (v' := I ((d + 1 : Nat) : Int)) (congrArg I (by omega))) rfl rfl rfl ?_
        refine J.e (op_call rfl rfl ent49 (Ct.use0 (fun F' hF => ih f' rfl F' Aa _ ca (sideR f' true m) (hra.sl.mono (hF ma (by simp))) (by have := sideR_len f' true m; omega) (by rw [sideR_map]; exact hw.side true) (fun p hp => hv p (List.mem_filter.1 hp).1) (d + 1) (by omega)))) rfl rfl rfl ?_
        intro g51 _
        refine J.y (op_move rfl rfl) rfl rfl rfl ?_
        refine J.y (op_move rfl rfl) rfl rfl rfl ?_
        refine J.y ((op_add rfl rfl rfl (by first | omega | (simp only [List.length_append, List.length_cons, List.length_nil, List.length_take, List.length_drop, Sha.tagged_length] at *; omega))).as (v' := I ((d + 1 : Nat) : Int)) (congrArg I (by omega))) rfl rfl rfl ?_
        refine J.e (op_call rfl rfl ent49 (Ct.use0 (fun F' hF => ih f' rfl F' Ab _ cb (sideR f' false m) (hrb.sl.mono (hF mb (by simp))) (by have := sideR_len f' false m; omega) (by rw [sideR_map]; exact hw.side false) (fun p hp => hv p (List.mem_filter.1 hp).1) (d + 1) (by omega)))) rfl rfl rfl ?_
        intro g55 _
        refine J.y (op_assign rfl rfl) rfl rfl rfl ?_
        refine J.y (op_assign rfl rfl) rfl rfl rfl ?_
        refine J.nil ?_
        refine J.then_n (J.k hK15 ?_)
        refine J.keepE [(5, _), (6, _), (8, _), (9, _)] ⟨rfl, rfl, rfl, rfl, trivial⟩ ?_
        refine J.seq (fun K16 hK16 => ?_)
        refine J.seq (fun K17 hK17 => ?_)
        obtain ⟨x, hx⟩ : ∃ x, x = (Sm.nd f' ((sideR f' true m).map toP)) := ⟨_, rfl⟩
        obtain ⟨y, hy⟩ : ∃ y, y = (Sm.nd f' ((sideR f' false m).map toP)) := ⟨_, rfl⟩
        obtain ⟨⟨hx1, hx2⟩, ⟨hy1, hy2⟩, hj1, hj2, hj3⟩ := ref_join hw (by omega) hx hy
        have hsum := sideR_sum f' m
        rw [← hx, ← hy]
        refine J.region ?_
        refine J.y (op_move rfl rfl) rfl rfl rfl ?_
        refine J.y (op_len Tryd.underlying75 rfl rfl) rfl rfl rfl ?_
        refine J.y (op_eql rfl rfl rfl) rfl rfl rfl ?_
        refine J.y (op_move rfl rfl) rfl rfl rfl ?_
        refine J.split (d := 59) rfl (fun h59 => ?_) (fun h59 => ?_)
        ·
          refine J.yg (Wan.is rfl rfl rfl rfl rfl) (op_move rfl rfl) rfl rfl ?_
          refine J.yg (Wan.is rfl rfl rfl rfl rfl) (op_sindex (c := y.getD 0 0) Tryd.underlying9 rfl rfl rfl (getSome 0 (by first | omega | (simp only [List.length_append, List.length_cons, List.length_nil, List.length_take, List.length_drop, Sha.tagged_length] at *; omega)))) rfl rfl ?_
          refine J.yg (Wan.is rfl rfl rfl rfl rfl) (op_eql rfl rfl rfl) rfl rfl ?_
          refine J.y (op_pickT rfl rfl rfl) rfl rfl rfl ?_
          refine J.y (op_move rfl rfl) rfl rfl rfl ?_
          refine J.split (d := 64) rfl (fun h64 => ?_) (fun h64 => ?_)
          ·
            refine J.no (Wan.is rfl rfl rfl rfl rfl) rfl rfl ?_
            refine J.no (Wan.is rfl rfl rfl rfl rfl) rfl rfl ?_
            refine J.no (Wan.is rfl rfl rfl rfl rfl) rfl rfl ?_
            refine J.no (Wan.is rfl rfl rfl rfl rfl) rfl rfl ?_
            refine J.no (Wan.un rfl rfl rfl rfl) rfl rfl ?_
            refine J.no (Wan.un rfl rfl rfl rfl) rfl rfl ?_
            refine J.no (Wan.un rfl rfl rfl rfl) rfl rfl ?_
            refine J.no (Wan.is rfl rfl rfl rfl rfl) rfl rfl ?_
            refine J.y (op_pickT rfl rfl rfl) rfl rfl rfl ?_
            refine J.nil ?_
            refine J.then_n (J.k hK17 ?_)
            refine J.keepE [(6, _), (8, _), (9, _), (73, _)] ⟨rfl, rfl, rfl, rfl, trivial⟩ ?_
            refine J.condT rfl rfl ?_
            refine J.seq (fun K18 hK18 => ?_)
            refine J.region ?_
            refine J.y (op_move rfl rfl) rfl rfl rfl ?_
            refine J.y (op_assign rfl rfl) rfl rfl rfl ?_
            refine J.nil ?_
            refine J.then_n (J.k hK18 ?_)
            refine J.keepE [(4, _)] ⟨rfl, trivial⟩ ?_
            refine J.ret ?_
            refine J.then_r ?_
            exact J.done hw0 (fun _ _ h => h) (res1 rfl rfl) (retOk () (by first | (exfalso; omega) | rw [hj1 (by omega)] | rw [hj2 (by omega) (by omega)] | rw [hj3 (by omega) (by omega)]) trivial [0] rfl (by decide))
          ·
            refine J.yg (Wan.is rfl rfl rfl rfl rfl) (op_move rfl rfl) rfl rfl ?_
            refine J.yg (Wan.is rfl rfl rfl rfl rfl) (op_len Tryd.underlying75 rfl rfl) rfl rfl ?_
            refine J.yg (Wan.is rfl rfl rfl rfl rfl) (op_eql rfl rfl rfl) rfl rfl ?_
            refine J.yg (Wan.is rfl rfl rfl rfl rfl) (op_move rfl rfl) rfl rfl ?_
            refine J.split (d := 68) rfl (fun h68 => ?_) (fun h68 => ?_)
            ·
              refine J.yg (Wan.is rfl rfl rfl rfl rfl) (op_move rfl rfl) rfl rfl ?_
              refine J.yg (Wan.is rfl rfl rfl rfl rfl) (op_len Tryd.underlying75 rfl rfl) rfl rfl ?_
              refine J.yg (Wan.is rfl rfl rfl rfl rfl) (op_eql rfl rfl rfl) rfl rfl ?_
              refine J.yg (Wan.is rfl rfl rfl rfl rfl) (op_pickT rfl rfl rfl) rfl rfl ?_
              refine J.y (op_pickF rfl rfl rfl) rfl rfl rfl ?_
              refine J.nil ?_
              refine J.then_n (J.k hK17 ?_)
              refine J.keepE [(6, _), (8, _), (9, _), (73, _)] ⟨rfl, rfl, rfl, rfl, trivial⟩ ?_
              refine J.ite rfl (fun h73 => ?_) (fun h73 => ?_)
              ·
                refine J.seq (fun K19 hK19 => ?_)
                refine J.region ?_
                refine J.y (op_move rfl rfl) rfl rfl rfl ?_
                refine J.y (op_assign rfl rfl) rfl rfl rfl ?_
                refine J.nil ?_
                refine J.then_n (J.k hK19 ?_)
                refine J.keepE [(4, _)] ⟨rfl, trivial⟩ ?_
                refine J.ret ?_
                refine J.then_r ?_
                exact J.done hw0 (fun _ _ h => h) (res1 rfl rfl) (retOk () (by first | (exfalso; omega) | rw [hj1 (by omega)] | rw [hj2 (by omega) (by omega)] | rw [hj3 (by omega) (by omega)]) trivial [0] rfl (by decide))
              ·
                refine J.skip ?_
                refine J.then_n (J.k hK16 ?_)
                refine J.keepE [(6, _), (8, _), (9, _)] ⟨rfl, rfl, rfl, trivial⟩ ?_
                refine J.seq (fun K20 hK20 => ?_)
                refine J.seq (fun K21 hK21 => ?_)
                refine J.region ?_
                refine J.y (op_move rfl rfl) rfl rfl rfl ?_
                refine J.y (op_len Tryd.underlying75 rfl rfl) rfl rfl rfl ?_
                refine J.y (op_eql rfl rfl rfl) rfl rfl rfl ?_
                refine J.y (op_move rfl rfl) rfl rfl rfl ?_
                refine J.split (d := 78) rfl (fun h78 => ?_) (fun h78 => ?_)
                ·
                  refine J.yg (Wan.is rfl rfl rfl rfl rfl) (op_move rfl rfl) rfl rfl ?_
                  refine J.yg (Wan.is rfl rfl rfl rfl rfl) (op_sindex (c := x.getD 0 0) Tryd.underlying9 rfl rfl rfl (getSome 0 (by first | omega | (simp only [List.length_append, List.length_cons, List.length_nil, List.length_take, List.length_drop, Sha.tagged_length] at *; omega)))) rfl rfl ?_
                  refine J.yg (Wan.is rfl rfl rfl rfl rfl) (op_eql rfl rfl rfl) rfl rfl ?_
                  refine J.y (op_pickT rfl rfl rfl) rfl rfl rfl ?_
                  refine J.nil ?_
                  refine J.then_n (J.k hK21 ?_)
                  refine J.keepE [(8, _), (9, _), (82, _)] ⟨rfl, rfl, rfl, trivial⟩ ?_
                  refine J.ite rfl (fun h82 => ?_) (fun h82 => ?_)
                  ·
                    refine J.seq (fun K22 hK22 => ?_)
                    refine J.region ?_
                    refine J.y (op_move rfl rfl) rfl rfl rfl ?_
                    refine J.y (op_assign rfl rfl) rfl rfl rfl ?_
                    refine J.nil ?_
                    refine J.then_n (J.k hK22 ?_)
                    refine J.keepE [(4, _)] ⟨rfl, trivial⟩ ?_
                    refine J.ret ?_
                    refine J.then_r ?_
                    exact J.done hw0 (fun _ _ h => h) (res1 rfl rfl) (retOk () (by first | (exfalso; omega) | rw [hj1 (by omega)] | rw [hj2 (by omega) (by omega)] | rw [hj3 (by omega) (by omega)]) trivial [0] rfl (by decide))
                  ·
                    refine J.skip ?_
                    refine J.then_n (J.k hK20 ?_)
                    refine J.keepE [(8, _), (9, _)] ⟨rfl, rfl, trivial⟩ ?_
                    refine J.seq (fun K23 hK23 => ?_)
                    refine J.region ?_
                    refine J.y (op_move rfl rfl) rfl rfl rfl ?_
                    refine J.y (op_move rfl rfl) rfl rfl rfl ?_
                    refine J.e (op_buildSlice (l := [.tmp 84, .tmp 85]) (xs := [[Str (x)], [Str (y)]]) rfl rfl rfl rfl Tryd.underlying36 el9 rfl (by decide) (by decide) (by simp)) rfl rfl rfl ?_
                    intro g86 _
                    change J _ _ _ [F, ma, mb, blk g86 [Str (x), Str (y)] 9] _
                    refine J.e (op_call rfl rfl ent105 (Ct.use0 (fun F' hF => tagged6_ct F' 10 (some ⟨g86, 0, none⟩) 2 2 ([x, y]) (((row_lit (q := True) (strsV [x, y]) rfl (by simp [strsV]) rfl).sl).mono (hF (blk g86 [Str (x), Str (y)] 9) (by simp))) (by simp; omega) (by omega)))) rfl rfl rfl ?_
                    intro g87 _
                    refine J.y (op_sadd (a := [2]) (b := Sha.tagged 10 ([x, y])) rfl rfl rfl (by first | omega | (simp only [List.length_append, List.length_cons, List.length_nil, List.length_take, List.length_drop, Sha.tagged_length] at *; omega))) rfl rfl rfl ?_
                    refine J.y (op_assign rfl rfl) rfl rfl rfl ?_
                    refine J.nil ?_
                    refine J.then_n (J.k hK23 ?_)
                    refine J.keepE [(4, _)] ⟨rfl, trivial⟩ ?_
                    refine J.ret ?_
                    exact J.done hw0 (fun _ _ h => h) (res1 rfl rfl) (retOk () (by first | (exfalso; omega) | rw [hj1 (by omega)] | rw [hj2 (by omega) (by omega)] | rw [hj3 (by omega) (by omega)]) trivial [0] rfl (by decide))
                ·
                  refine J.no (Wan.is rfl rfl rfl rfl rfl) rfl rfl ?_
                  refine J.no (Wan.is rfl rfl rfl rfl rfl) rfl rfl ?_
                  refine J.no (Wan.is rfl rfl rfl rfl rfl) rfl rfl ?_
                  refine J.y (op_pickF rfl rfl rfl) rfl rfl rfl ?_
                  refine J.nil ?_
                  refine J.then_n (J.k hK21 ?_)
                  refine J.keepE [(8, _), (9, _), (82, _)] ⟨rfl, rfl, rfl, trivial⟩ ?_
                  refine J.condF rfl rfl ?_
                  refine J.skip ?_
                  refine J.then_n (J.k hK20 ?_)
                  refine J.keepE [(8, _), (9, _)] ⟨rfl, rfl, trivial⟩ ?_
                  refine J.seq (fun K24 hK24 => ?_)
                  refine J.region ?_
                  refine J.y (op_move rfl rfl) rfl rfl rfl ?_
                  refine J.y (op_move rfl rfl) rfl rfl rfl ?_
                  refine J.e (op_buildSlice (l := [.tmp 84, .tmp 85]) (xs := [[Str (x)], [Str (y)]]) rfl rfl rfl rfl Tryd.underlying36 el9 rfl (by decide) (by decide) (by simp)) rfl rfl rfl ?_
                  intro g86 _
                  change J _ _ _ [F, ma, mb, blk g86 [Str (x), Str (y)] 9] _
                  refine J.e (op_call rfl rfl ent105 (Ct.use0 (fun F' hF => tagged6_ct F' 10 (some ⟨g86, 0, none⟩) 2 2 ([x, y]) (((row_lit (q := True) (strsV [x, y]) rfl (by simp [strsV]) rfl).sl).mono (hF (blk g86 [Str (x), Str (y)] 9) (by simp))) (by simp; omega) (by omega)))) rfl rfl rfl ?_
                  intro g87 _
                  refine J.y (op_sadd (a := [2]) (b := Sha.tagged 10 ([x, y])) rfl rfl rfl (by first | omega | (simp only [List.length_append, List.length_cons, List.length_nil, List.length_take, List.length_drop, Sha.tagged_length] at *; omega))) rfl rfl rfl ?_
                  refine J.y (op_assign rfl rfl) rfl rfl rfl ?_
                  refine J.nil ?_
                  refine J.then_n (J.k hK24 ?_)
                  refine J.keepE [(4, _)] ⟨rfl, trivial⟩ ?_
                  refine J.ret ?_
                  exact J.done hw0 (fun _ _ h => h) (res1 rfl rfl) (retOk () (by first | (exfalso; omega) | rw [hj1 (by omega)] | rw [hj2 (by omega) (by omega)] | rw [hj3 (by omega) (by omega)]) trivial [0] rfl (by decide))
            ·
              refine J.no (Wan.is rfl rfl rfl rfl rfl) rfl rfl ?_
              refine J.no (Wan.is rfl rfl rfl rfl rfl) rfl rfl ?_
              refine J.no (Wan.is rfl rfl rfl rfl rfl) rfl rfl ?_
              refine J.yg (Wan.is rfl rfl rfl rfl rfl) (op_pickF rfl rfl rfl) rfl rfl ?_
              refine J.y (op_pickF rfl rfl rfl) rfl rfl rfl ?_
              refine J.nil ?_
              refine J.then_n (J.k hK17 ?_)
              refine J.keepE [(6, _), (8, _), (9, _), (73, _)] ⟨rfl, rfl, rfl, rfl, trivial⟩ ?_
              refine J.condF rfl rfl ?_
              refine J.skip ?_
              refine J.then_n (J.k hK16 ?_)
              refine J.keepE [(6, _), (8, _), (9, _)] ⟨rfl, rfl, rfl, trivial⟩ ?_
              refine J.seq (fun K25 hK25 => ?_)
              refine J.seq (fun K26 hK26 => ?_)
              refine J.region ?_
              refine J.y (op_move rfl rfl) rfl rfl rfl ?_
              refine J.y (op_len Tryd.underlying75 rfl rfl) rfl rfl rfl ?_
              refine J.y (op_eql rfl rfl rfl) rfl rfl rfl ?_
              refine J.y (op_move rfl rfl) rfl rfl rfl ?_
              refine J.split (d := 78) rfl (fun h78 => ?_) (fun h78 => ?_)
              ·
                refine J.yg (Wan.is rfl rfl rfl rfl rfl) (op_move rfl rfl) rfl rfl ?_
                refine J.yg (Wan.is rfl rfl rfl rfl rfl) (op_sindex (c := x.getD 0 0) Tryd.underlying9 rfl rfl rfl (getSome 0 (by first | omega | (simp only [List.length_append, List.length_cons, List.length_nil, List.length_take, List.length_drop, Sha.tagged_length] at *; omega)))) rfl rfl ?_
                refine J.yg (Wan.is rfl rfl rfl rfl rfl) (op_eql rfl rfl rfl) rfl rfl ?_
                refine J.y (op_pickT rfl rfl rfl) rfl rfl rfl ?_
                refine J.nil ?_
                refine J.then_n (J.k hK26 ?_)
                refine J.keepE [(8, _), (9, _), (82, _)] ⟨rfl, rfl, rfl, trivial⟩ ?_
                refine J.ite rfl (fun h82 => ?_) (fun h82 => ?_)
                ·
                  refine J.seq (fun K27 hK27 => ?_)
                  refine J.region ?_
                  refine J.y (op_move rfl rfl) rfl rfl rfl ?_
                  refine J.y (op_assign rfl rfl) rfl rfl rfl ?_
                  refine J.nil ?_
                  refine J.then_n (J.k hK27 ?_)
                  refine J.keepE [(4, _)] ⟨rfl, trivial⟩ ?_
                  refine J.ret ?_
                  refine J.then_r ?_
                  exact J.done hw0 (fun _ _ h => h) (res1 rfl rfl) (retOk () (by first | (exfalso; omega) | rw [hj1 (by omega)] | rw [hj2 (by omega) (by omega)] | rw [hj3 (by omega) (by omega)]) trivial [0] rfl (by decide))
                ·
                  refine J.skip ?_
                  refine J.then_n (J.k hK25 ?_)
                  refine J.keepE [(8, _), (9, _)] ⟨rfl, rfl, trivial⟩ ?_
                  refine J.seq (fun K28 hK28 => ?_)
                  refine J.region ?_
                  refine J.y (op_move rfl rfl) rfl rfl rfl ?_
                  refine J.y (op_move rfl rfl) rfl rfl rfl ?_
                  refine J.e (op_buildSlice (l := [.tmp 84, .tmp 85]) (xs := [[Str (x)], [Str (y)]]) rfl rfl rfl rfl Tryd.underlying36 el9 rfl (by decide) (by decide) (by simp)) rfl rfl rfl ?_
                  intro g86 _
                  change J _ _ _ [F, ma, mb, blk g86 [Str (x), Str (y)] 9] _
                  refine J.e (op_call rfl rfl ent105 (Ct.use0 (fun F' hF => tagged6_ct F' 10 (some ⟨g86, 0, none⟩) 2 2 ([x, y]) (((row_lit (q := True) (strsV [x, y]) rfl (by simp [strsV]) rfl).sl).mono (hF (blk g86 [Str (x), Str (y)] 9) (by simp))) (by simp; omega) (by omega)))) rfl rfl rfl ?_
                  intro g87 _
                  refine J.y (op_sadd (a := [2]) (b := Sha.tagged 10 ([x, y])) rfl rfl rfl (by first | omega | (simp only [List.length_append, List.length_cons, List.length_nil, List.length_take, List.length_drop, Sha.tagged_length] at *; omega))) rfl rfl rfl ?_
                  refine J.y (op_assign rfl rfl) rfl rfl rfl ?_
                  refine J.nil ?_
                  refine J.then_n (J.k hK28 ?_)
                  refine J.keepE [(4, _)] ⟨rfl, trivial⟩ ?_
                  refine J.ret ?_
                  exact J.done hw0 (fun _ _ h => h) (res1 rfl rfl) (retOk () (by first | (exfalso; omega) | rw [hj1 (by omega)] | rw [hj2 (by omega) (by omega)] | rw [hj3 (by omega) (by omega)]) trivial [0] rfl (by decide))
              ·
                refine J.no (Wan.is rfl rfl rfl rfl rfl) rfl rfl ?_
                refine J.no (Wan.is rfl rfl rfl rfl rfl) rfl rfl ?_
                refine J.no (Wan.is rfl rfl rfl rfl rfl) rfl rfl ?_
                refine J.y (op_pickF rfl rfl rfl) rfl rfl rfl ?_
                refine J.nil ?_
                refine J.then_n (J.k hK26 ?_)
                refine J.keepE [(8, _), (9, _), (82, _)] ⟨rfl, rfl, rfl, trivial⟩ ?_
                refine J.condF rfl rfl ?_
                refine J.skip ?_
                refine J.then_n (J.k hK25 ?_)
                refine J.keepE [(8, _), (9, _)] ⟨rfl, rfl, trivial⟩ ?_
                refine J.seq (fun K29 hK29 => ?_)
                refine J.region ?_
                refine J.y (op_move rfl rfl) rfl rfl rfl ?_
                refine J.y (op_move rfl rfl) rfl rfl rfl ?_
                refine J.e (op_buildSlice (l := [.tmp 84, .tmp 85]) (xs := [[Str (x)], [Str (y)]]) rfl rfl rfl rfl Tryd.underlying36 el9 rfl (by decide) (by decide) (by simp)) rfl rfl rfl ?_
                intro g86 _
                change J _ _ _ [F, ma, mb, blk g86 [Str (x), Str (y)] 9] _
                refine J.e (op_call rfl rfl ent105 (Ct.use0 (fun F' hF => tagged6_ct F' 10 (some ⟨g86, 0, none⟩) 2 2 ([x, y]) (((row_lit (q := True) (strsV [x, y]) rfl (by simp [strsV]) rfl).sl).mono (hF (blk g86 [Str (x), Str (y)] 9) (by simp))) (by simp; omega) (by omega)))) rfl rfl rfl ?_
                intro g87 _
                refine J.y (op_sadd (a := [2]) (b := Sha.tagged 10 ([x, y])) rfl rfl rfl (by first | omega | (simp only [List.length_append, List.length_cons, List.length_nil, List.length_take, List.length_drop, Sha.tagged_length] at *; omega))) rfl rfl rfl ?_
                refine J.y (op_assign rfl rfl) rfl rfl rfl ?_
                refine J.nil ?_
                refine J.then_n (J.k hK29 ?_)
                refine J.keepE [(4, _)] ⟨rfl, trivial⟩ ?_
                refine J.ret ?_
                exact J.done hw0 (fun _ _ h => h) (res1 rfl rfl) (retOk () (by first | (exfalso; omega) | rw [hj1 (by omega)] | rw [hj2 (by omega) (by omega)] | rw [hj3 (by omega) (by omega)]) trivial [0] rfl (by decide))
        ·
          refine J.no (Wan.is rfl rfl rfl rfl rfl) rfl rfl ?_
          refine J.no (Wan.is rfl rfl rfl rfl rfl) rfl rfl ?_
          refine J.no (Wan.is rfl rfl rfl rfl rfl) rfl rfl ?_
          refine J.y (op_pickF rfl rfl rfl) rfl rfl rfl ?_
          refine J.y (op_move rfl rfl) rfl rfl rfl ?_
          refine J.yg (Wan.is rfl rfl rfl rfl rfl) (op_move rfl rfl) rfl rfl ?_
          refine J.yg (Wan.is rfl rfl rfl rfl rfl) (op_len Tryd.underlying75 rfl rfl) rfl rfl ?_
          refine J.yg (Wan.is rfl rfl rfl rfl rfl) (op_eql rfl rfl rfl) rfl rfl ?_
          refine J.yg (Wan.is rfl rfl rfl rfl rfl) (op_move rfl rfl) rfl rfl ?_
          refine J.split (d := 68) rfl (fun h68 => ?_) (fun h68 => ?_)
          ·
            refine J.yg (Wan.is rfl rfl rfl rfl rfl) (op_move rfl rfl) rfl rfl ?_
            refine J.yg (Wan.is rfl rfl rfl rfl rfl) (op_len Tryd.underlying75 rfl rfl) rfl rfl ?_
            refine J.yg (Wan.is rfl rfl rfl rfl rfl) (op_eql rfl rfl rfl) rfl rfl ?_
            refine J.yg (Wan.is rfl rfl rfl rfl rfl) (op_pickT rfl rfl rfl) rfl rfl ?_
            refine J.y (op_pickF rfl rfl rfl) rfl rfl rfl ?_
            refine J.nil ?_
            refine J.then_n (J.k hK17 ?_)
            refine J.keepE [(6, _), (8, _), (9, _), (73, _)] ⟨rfl, rfl, rfl, rfl, trivial⟩ ?_
            refine J.ite rfl (fun h73 => ?_) (fun h73 => ?_)
            ·
              refine J.seq (fun K30 hK30 => ?_)
              refine J.region ?_
              refine J.y (op_move rfl rfl) rfl rfl rfl ?_
              refine J.y (op_assign rfl rfl) rfl rfl rfl ?_
              refine J.nil ?_
              refine J.then_n (J.k hK30 ?_)
              refine J.keepE [(4, _)] ⟨rfl, trivial⟩ ?_
              refine J.ret ?_
              refine J.then_r ?_
              exact J.done hw0 (fun _ _ h => h) (res1 rfl rfl) (retOk () (by first | (exfalso; omega) | rw [hj1 (by omega)] | rw [hj2 (by omega) (by omega)] | rw [hj3 (by omega) (by omega)]) trivial [0] rfl (by decide))
            ·
              refine J.skip ?_
              refine J.then_n (J.k hK16 ?_)
              refine J.keepE [(6, _), (8, _), (9, _)] ⟨rfl, rfl, rfl, trivial⟩ ?_
              refine J.seq (fun K31 hK31 => ?_)
              refine J.seq (fun K32 hK32 => ?_)
              refine J.region ?_
              refine J.y (op_move rfl rfl) rfl rfl rfl ?_
              refine J.y (op_len Tryd.underlying75 rfl rfl) rfl rfl rfl ?_
              refine J.y (op_eql rfl rfl rfl) rfl rfl rfl ?_
              refine J.y (op_move rfl rfl) rfl rfl rfl ?_
              refine J.split (d := 78) rfl (fun h78 => ?_) (fun h78 => ?_)
              ·
                refine J.yg (Wan.is rfl rfl rfl rfl rfl) (op_move rfl rfl) rfl rfl ?_
                refine J.yg (Wan.is rfl rfl rfl rfl rfl) (op_sindex (c := x.getD 0 0) Tryd.underlying9 rfl rfl rfl (getSome 0 (by first | omega | (simp only [List.length_append, List.length_cons, List.length_nil, List.length_take, List.length_drop, Sha.tagged_length] at *; omega)))) rfl rfl ?_
                refine J.yg (Wan.is rfl rfl rfl rfl rfl) (op_eql rfl rfl rfl) rfl rfl ?_
                refine J.y (op_pickT rfl rfl rfl) rfl rfl rfl ?_
                refine J.nil ?_
                refine J.then_n (J.k hK32 ?_)
                refine J.keepE [(8, _), (9, _), (82, _)] ⟨rfl, rfl, rfl, trivial⟩ ?_
                refine J.ite rfl (fun h82 => ?_) (fun h82 => ?_)
                ·
                  refine J.seq (fun K33 hK33 => ?_)
                  refine J.region ?_
                  refine J.y (op_move rfl rfl) rfl rfl rfl ?_
                  refine J.y (op_assign rfl rfl) rfl rfl rfl ?_
                  refine J.nil ?_
                  refine J.then_n (J.k hK33 ?_)
                  refine J.keepE [(4, _)] ⟨rfl, trivial⟩ ?_
                  refine J.ret ?_
                  refine J.then_r ?_
                  exact J.done hw0 (fun _ _ h => h) (res1 rfl rfl) (retOk () (by first | (exfalso; omega) | rw [hj1 (by omega)] | rw [hj2 (by omega) (by omega)] | rw [hj3 (by omega) (by omega)]) trivial [0] rfl (by decide))
                ·
                  refine J.skip ?_
                  refine J.then_n (J.k hK31 ?_)
                  refine J.keepE [(8, _), (9, _)] ⟨rfl, rfl, trivial⟩ ?_
                  refine J.seq (fun K34 hK34 => ?_)
                  refine J.region ?_
                  refine J.y (op_move rfl rfl) rfl rfl rfl ?_
                  refine J.y (op_move rfl rfl) rfl rfl rfl ?_
                  refine J.e (op_buildSlice (l := [.tmp 84, .tmp 85]) (xs := [[Str (x)], [Str (y)]]) rfl rfl rfl rfl Tryd.underlying36 el9 rfl (by decide) (by decide) (by simp)) rfl rfl rfl ?_
                  intro g86 _
                  change J _ _ _ [F, ma, mb, blk g86 [Str (x), Str (y)] 9] _
                  refine J.e (op_call rfl rfl ent105 (Ct.use0 (fun F' hF => tagged6_ct F' 10 (some ⟨g86, 0, none⟩) 2 2 ([x, y]) (((row_lit (q := True) (strsV [x, y]) rfl (by simp [strsV]) rfl).sl).mono (hF (blk g86 [Str (x), Str (y)] 9) (by simp))) (by simp; omega) (by omega)))) rfl rfl rfl ?_
                  intro g87 _
                  refine J.y (op_sadd (a := [2]) (b := Sha.tagged 10 ([x, y])) rfl rfl rfl (by first | omega | (simp only [List.length_append, List.length_cons, List.length_nil, List.length_take, List.length_drop, Sha.tagged_length] at *; omega))) rfl rfl rfl ?_
                  refine J.y (op_assign rfl rfl) rfl rfl rfl ?_
                  refine J.nil ?_
                  refine J.then_n (J.k hK34 ?_)
                  refine J.keepE [(4, _)] ⟨rfl, trivial⟩ ?_
                  refine J.ret ?_
                  exact J.done hw0 (fun _ _ h => h) (res1 rfl rfl) (retOk () (by first | (exfalso; omega) | rw [hj1 (by omega)] | rw [hj2 (by omega) (by omega)] | rw [hj3 (by omega) (by omega)]) trivial [0] rfl (by decide))
              ·
                refine J.no (Wan.is rfl rfl rfl rfl rfl) rfl rfl ?_
                refine J.no (Wan.is rfl rfl rfl rfl rfl) rfl rfl ?_
                refine J.no (Wan.is rfl rfl rfl rfl rfl) rfl rfl ?_
                refine J.y (op_pickF rfl rfl rfl) rfl rfl rfl ?_
                refine J.nil ?_
                refine J.then_n (J.k hK32 ?_)
                refine J.keepE [(8, _), (9, _), (82, _)] ⟨rfl, rfl, rfl, trivial⟩ ?_
                refine J.condF rfl rfl ?_
                refine J.skip ?_
                refine J.then_n (J.k hK31 ?_)
                refine J.keepE [(8, _), (9, _)] ⟨rfl, rfl, trivial⟩ ?_
                refine J.seq (fun K35 hK35 => ?_)
                refine J.region ?_
                refine J.y (op_move rfl rfl) rfl rfl rfl ?_
                refine J.y (op_move rfl rfl) rfl rfl rfl ?_
                refine J.e (op_buildSlice (l := [.tmp 84, .tmp 85]) (xs := [[Str (x)], [Str (y)]]) rfl rfl rfl rfl Tryd.underlying36 el9 rfl (by decide) (by decide) (by simp)) rfl rfl rfl ?_
                intro g86 _
                change J _ _ _ [F, ma, mb, blk g86 [Str (x), Str (y)] 9] _
                refine J.e (op_call rfl rfl ent105 (Ct.use0 (fun F' hF => tagged6_ct F' 10 (some ⟨g86, 0, none⟩) 2 2 ([x, y]) (((row_lit (q := True) (strsV [x, y]) rfl (by simp [strsV]) rfl).sl).mono (hF (blk g86 [Str (x), Str (y)] 9) (by simp))) (by simp; omega) (by omega)))) rfl rfl rfl ?_
                intro g87 _
                refine J.y (op_sadd (a := [2]) (b := Sha.tagged 10 ([x, y])) rfl rfl rfl (by first | omega | (simp only [List.length_append, List.length_cons, List.length_nil, List.length_take, List.length_drop, Sha.tagged_length] at *; omega))) rfl rfl rfl ?_
                refine J.y (op_assign rfl rfl) rfl rfl rfl ?_
                refine J.nil ?_
                refine J.then_n (J.k hK35 ?_)
                refine J.keepE [(4, _)] ⟨rfl, trivial⟩ ?_
                refine J.ret ?_
                exact J.done hw0 (fun _ _ h => h) (res1 rfl rfl) (retOk () (by first | (exfalso; omega) | rw [hj1 (by omega)] | rw [hj2 (by omega) (by omega)] | rw [hj3 (by omega) (by omega)]) trivial [0] rfl (by decide))
          ·
            refine J.no (Wan.is rfl rfl rfl rfl rfl) rfl rfl ?_
            refine J.no (Wan.is rfl rfl rfl rfl rfl) rfl rfl ?_
            refine J.no (Wan.is rfl rfl rfl rfl rfl) rfl rfl ?_
            refine J.yg (Wan.is rfl rfl rfl rfl rfl) (op_pickF rfl rfl rfl) rfl rfl ?_
            refine J.y (op_pickF rfl rfl rfl) rfl rfl rfl ?_
            refine J.nil ?_
            refine J.then_n (J.k hK17 ?_)
            refine J.keepE [(6, _), (8, _), (9, _), (73, _)] ⟨rfl, rfl, rfl, rfl, trivial⟩ ?_
            refine J.condF rfl rfl ?_
            refine J.skip ?_
            refine J.then_n (J.k hK16 ?_)
            refine J.keepE [(6, _), (8, _), (9, _)] ⟨rfl, rfl, rfl, trivial⟩ ?_
            refine J.seq (fun K36 hK36 => ?_)
            refine J.seq (fun K37 hK37 => ?_)
            refine J.region ?_
            refine J.y (op_move rfl rfl) rfl rfl rfl ?_
            refine J.y (op_len Tryd.underlying75 rfl rfl) rfl rfl rfl ?_
            refine J.y (op_eql rfl rfl rfl) rfl rfl rfl ?_
            refine J.y (op_move rfl rfl) rfl rfl rfl ?_
            refine J.split (d := 78) rfl (fun h78 => ?_) (fun h78 => ?_)
            ·
              refine J.yg (Wan.is rfl rfl rfl rfl rfl) (op_move rfl rfl) rfl rfl ?_
              refine J.yg (Wan.is rfl rfl rfl rfl rfl) (op_sindex (c := x.getD 0 0) Tryd.underlying9 rfl rfl rfl (getSome 0 (by first | omega | (simp only [List.length_append, List.length_cons, List.length_nil, List.length_take, List.length_drop, Sha.tagged_length] at *; omega)))) rfl rfl ?_
              refine J.yg (Wan.is rfl rfl rfl rfl rfl) (op_eql rfl rfl rfl) rfl rfl ?_
              refine J.y (op_pickT rfl rfl rfl) rfl rfl rfl ?_
              refine J.nil ?_
              refine J.then_n (J.k hK37 ?_)
              refine J.keepE [(8, _), (9, _), (82, _)] ⟨rfl, rfl, rfl, trivial⟩ ?_
              refine J.ite rfl (fun h82 => ?_) (fun h82 => ?_)
              ·
                refine J.seq (fun K38 hK38 => ?_)
                refine J.region ?_
                refine J.y (op_move rfl rfl) rfl rfl rfl ?_
                refine J.y (op_assign rfl rfl) rfl rfl rfl ?_
                refine J.nil ?_
                refine J.then_n (J.k hK38 ?_)
                refine J.keepE [(4, _)] ⟨rfl, trivial⟩ ?_
                refine J.ret ?_
                refine J.then_r ?_
                exact J.done hw0 (fun _ _ h => h) (res1 rfl rfl) (retOk () (by first | (exfalso; omega) | rw [hj1 (by omega)] | rw [hj2 (by omega) (by omega)] | rw [hj3 (by omega) (by omega)]) trivial [0] rfl (by decide))
              ·
                refine J.skip ?_
                refine J.then_n (J.k hK36 ?_)
                refine J.keepE [(8, _), (9, _)] ⟨rfl, rfl, trivial⟩ ?_
                refine J.seq (fun K39 hK39 => ?_)
                refine J.region ?_
                refine J.y (op_move rfl rfl) rfl rfl rfl ?_
                refine J.y (op_move rfl rfl) rfl rfl rfl ?_
                refine J.e (op_buildSlice (l := [.tmp 84, .tmp 85]) (xs := [[Str (x)], [Str (y)]]) rfl rfl rfl rfl Tryd.underlying36 el9 rfl (by decide) (by decide) (by simp)) rfl rfl rfl ?_
                intro g86 _
                change J _ _ _ [F, ma, mb, blk g86 [Str (x), Str (y)] 9] _
                refine J.e (op_call rfl rfl ent105 (Ct.use0 (fun F' hF => tagged6_ct F' 10 (some ⟨g86, 0, none⟩) 2 2 ([x, y]) (((row_lit (q := True) (strsV [x, y]) rfl (by simp [strsV]) rfl).sl).mono (hF (blk g86 [Str (x), Str (y)] 9) (by simp))) (by simp; omega) (by omega)))) rfl rfl rfl ?_
                intro g87 _
                refine J.y (op_sadd (a := [2]) (b := Sha.tagged 10 ([x, y])) rfl rfl rfl (by first | omega | (simp only [List.length_append, List.length_cons, List.length_nil, List.length_take, List.length_drop, Sha.tagged_length] at *; omega))) rfl rfl rfl ?_
                refine J.y (op_assign rfl rfl) rfl rfl rfl ?_
                refine J.nil ?_
                refine J.then_n (J.k hK39 ?_)
                refine J.keepE [(4, _)] ⟨rfl, trivial⟩ ?_
                refine J.ret ?_
                exact J.done hw0 (fun _ _ h => h) (res1 rfl rfl) (retOk () (by first | (exfalso; omega) | rw [hj1 (by omega)] | rw [hj2 (by omega) (by omega)] | rw [hj3 (by omega) (by omega)]) trivial [0] rfl (by decide))
            ·
              refine J.no (Wan.is rfl rfl rfl rfl rfl) rfl rfl ?_
              refine J.no (Wan.is rfl rfl rfl rfl rfl) rfl rfl ?_
              refine J.no (Wan.is rfl rfl rfl rfl rfl) rfl rfl ?_
              refine J.y (op_pickF rfl rfl rfl) rfl rfl rfl ?_
              refine J.nil ?_
              refine J.then_n (J.k hK37 ?_)
              refine J.keepE [(8, _), (9, _), (82, _)] ⟨rfl, rfl, rfl, trivial⟩ ?_
              refine J.condF rfl rfl ?_
              refine J.skip ?_
              refine J.then_n (J.k hK36 ?_)
              refine J.keepE [(8, _), (9, _)] ⟨rfl, rfl, trivial⟩ ?_
              refine J.seq (fun K40 hK40 => ?_)
              refine J.region ?_
              refine J.y (op_move rfl rfl) rfl rfl rfl ?_
              refine J.y (op_move rfl rfl) rfl rfl rfl ?_
              refine J.e (op_buildSlice (l := [.tmp 84, .tmp 85]) (xs := [[Str (x)], [Str (y)]]) rfl rfl rfl rfl Tryd.underlying36 el9 rfl (by decide) (by decide) (by simp)) rfl rfl rfl ?_
              intro g86 _
              change J _ _ _ [F, ma, mb, blk g86 [Str (x), Str (y)] 9] _
              refine J.e (op_call rfl rfl ent105 (Ct.use0 (fun F' hF => tagged6_ct F' 10 (some ⟨g86, 0, none⟩) 2 2 ([x, y]) (((row_lit (q := True) (strsV [x, y]) rfl (by simp [strsV]) rfl).sl).mono (hF (blk g86 [Str (x), Str (y)] 9) (by simp))) (by simp; omega) (by omega)))) rfl rfl rfl ?_
              intro g87 _
              refine J.y (op_sadd (a := [2]) (b := Sha.tagged 10 ([x, y])) rfl rfl rfl (by first | omega | (simp only [List.length_append, List.length_cons, List.length_nil, List.length_take, List.length_drop, Sha.tagged_length] at *; omega))) rfl rfl rfl ?_
              refine J.y (op_assign rfl rfl) rfl rfl rfl ?_
              refine J.nil ?_
              refine J.then_n (J.k hK40 ?_)
              refine J.keepE [(4, _)] ⟨rfl, trivial⟩ ?_
              refine J.ret ?_
              exact J.done hw0 (fun _ _ h => h) (res1 rfl rfl) (retOk () (by first | (exfalso; omega) | rw [hj1 (by omega)] | rw [hj2 (by omega) (by omega)] | rw [hj3 (by omega) (by omega)]) trivial [0] rfl (by decide))

end Go.Proofs.YtpcffgkmpmcobaaDoor
