/- A part of the proof: contracts of functions of the program, each for every state of the heaps that it names. -/
import Derived.Test.YtnkfapecbmmpeaaDoorSmt4
set_option linter.unusedSimpArgs false
set_option linter.unusedVariables false
namespace Go.Proofs.YtnkfapecbmmpeaaDoor
open Go Go.Fw
set_option maxRecDepth 100000
set_option maxHeartbeats 1000000

/-- the pairs on a side, as the document's rows have them -/
def sideR (f : Nat) (t : Bool) (m : List Pr) : List Pr := m.filter fun p => decide (Sm.kv p.k / 2 ^ f % 2 = 0) == t
theorem sideR_map (f : Nat) (t : Bool) (m : List Pr) : (sideR f t m).map toP = Sm.side f t (m.map toP) := by
  unfold sideR Sm.side
  rw [List.filter_map]; rfl
theorem ref_key {f : Nat} {m : List Pr} (hw : Sm.WF f (m.map toP)) {j : Nat} (hj : j < m.length) : (m.getD j noPr).k.length = 16 := by
  rw [List.getD_eq_getElem?_getD, List.getElem?_eq_getElem hj]
  exact hw.2.1 (toP m[j]) (List.mem_map.2 ⟨_, List.getElem_mem hj, rfl⟩)
theorem ref_small {f : Nat} {m : List Pr} (hw : Sm.WF f (m.map toP)) (j : Nat) : (m.getD j noPr).k.length ≤ 1000000 := by
  by_cases hj : j < m.length
  · rw [ref_key hw hj]; decide
  · rw [List.getD_eq_getElem?_getD, List.getElem?_eq_none (by omega)]; exact Nat.zero_le _
theorem ref_val {m : List Pr} (hv : ∀ p ∈ m, p.v.length ≤ 1000000) (j : Nat) : (m.getD j noPr).v.length ≤ 1000000 := by
  by_cases hj : j < m.length
  · rw [List.getD_eq_getElem?_getD, List.getElem?_eq_getElem hj]; exact hv _ (List.getElem_mem hj)
  · rw [List.getD_eq_getElem?_getD, List.getElem?_eq_none (by omega)]; exact Nat.zero_le _
theorem sideR_take {f d : Nat} {m : List Pr} (hw : Sm.WF (f + 1) (m.map toP)) (hd : d + (f + 1) = 128) {i : Nat} (hi : i < m.length) (t : Bool) :
    sideR f t (m.take (i + 1)) = sideR f t (m.take i) ++ if (decide (Sm.bit (m.getD i noPr).k d = 0) == t) = true then [m.getD i noPr] else [] := by
  unfold sideR
  rw [List.take_succ_eq_append_getElem hi, List.filter_append, List.filter_cons, List.filter_nil, Sm.bit_kv (ref_key hw hi) (by omega), show 127 - d = f by omega, List.getD_eq_getElem?_getD, List.getElem?_eq_getElem hi]
  rfl
theorem sideR_yes {f d : Nat} {m : List Pr} (hw : Sm.WF (f + 1) (m.map toP)) (hd : d + (f + 1) = 128) {i : Nat} (hi : i < m.length) (h : Sm.bit (m.getD i noPr).k d = 0) :
    sideR f true (m.take (i + 1)) = sideR f true (m.take i) ++ [m.getD i noPr] ∧ sideR f false (m.take (i + 1)) = sideR f false (m.take i) := by
  constructor
  · rw [sideR_take hw hd hi, decide_eq_true h]; rfl
  · rw [sideR_take hw hd hi, decide_eq_true h]; exact List.append_nil _
theorem sideR_no {f d : Nat} {m : List Pr} (hw : Sm.WF (f + 1) (m.map toP)) (hd : d + (f + 1) = 128) {i : Nat} (hi : i < m.length) (h : ¬ Sm.bit (m.getD i noPr).k d = 0) :
    sideR f true (m.take (i + 1)) = sideR f true (m.take i) ∧ sideR f false (m.take (i + 1)) = sideR f false (m.take i) ++ [m.getD i noPr] := by
  constructor
  · rw [sideR_take hw hd hi, decide_eq_false h]; exact List.append_nil _
  · rw [sideR_take hw hd hi, decide_eq_false h]; rfl
theorem sideR_len (f : Nat) (t : Bool) (m : List Pr) : (sideR f t m).length ≤ m.length := List.length_filter_le _ _
theorem join_nn {a b : List UInt8} (ha : a ≠ []) (hb : b ≠ []) : Sb.join a b ≠ [] := by
  have e : Sb.join a b = if a = [0] ∧ (b = [0] ∨ Sb.isLf b) then b else if b = [0] ∧ Sb.isLf a then a else 2 :: Sha.tagged 10 [a, b] := by unfold Sb.join; rfl
  rw [e]
  split
  · exact hb
  · split
    · exact ha
    · exact List.cons_ne_nil _ _
theorem nd_nn : ∀ {f : Nat} {l : List Sm.PR}, Sm.WF f l → Sm.nd f l ≠ []
  | f, [], _ => by rw [Sm.nd_nil]; exact List.cons_ne_nil _ _
  | f, [p], _ => by rw [Sm.nd_one]; unfold Sb.leafN; exact List.cons_ne_nil _ _
  | 0, a :: b :: r, hw => by have := hw.short; simp at this
  | f + 1, a :: b :: r, hw => by rw [Sm.nd_two f (by simp)]; exact join_nn (nd_nn (hw.side true)) (nd_nn (hw.side false))
/-- the document's way to join -/
theorem join_ref {x y : List UInt8} {e1 e2 : Prop} (h1 : x = [0] ↔ e1) (h2 : y = [0] ↔ e2) (hn : ¬ (e1 ∧ e2)) : (e1 ∧ Sb.isLf y → Sb.join x y = y) ∧ (¬ (e1 ∧ Sb.isLf y) → e2 ∧ Sb.isLf x → Sb.join x y = x) ∧ (¬ (e1 ∧ Sb.isLf y) → ¬ (e2 ∧ Sb.isLf x) → Sb.join x y = 2 :: Sha.tagged 10 [x, y]) := by
  have e : Sb.join x y = if x = [0] ∧ (y = [0] ∨ Sb.isLf y) then y else if y = [0] ∧ Sb.isLf x then x else 2 :: Sha.tagged 10 [x, y] := by unfold Sb.join; rfl
  obtain rfl : e1 = (x = [0]) := propext h1.symm
  obtain rfl : e2 = (y = [0]) := propext h2.symm
  rw [e]
  refine ⟨fun h => by rw [if_pos ⟨h.1, .inr h.2⟩], fun h h3 => ?_, fun h h3 => ?_⟩
  · rw [if_neg (fun q => q.2.elim (fun q2 => hn ⟨q.1, q2⟩) (fun q2 => h ⟨q.1, q2⟩)), if_pos h3]
  · rw [if_neg (fun q => q.2.elim (fun q2 => hn ⟨q.1, q2⟩) (fun q2 => h ⟨q.1, q2⟩)), if_neg h3]
theorem nd_one0 {f : Nat} {l : List Sm.PR} (hw : Sm.WF f l) : (Sm.nd f l).getD 0 0 = 1 ↔ Sb.isLf (Sm.nd f l) := by
  have h0 := nd_nn hw
  unfold Sb.isLf
  cases h : Sm.nd f l with
  | nil => exact absurd h h0
  | cons a r => simp
theorem sideR_sum (f : Nat) (m : List Pr) : (sideR f true m).length + (sideR f false m).length = m.length := by
  have h := Sm.side_len f (m.map toP)
  rw [← sideR_map, ← sideR_map, List.length_map, List.length_map, List.length_map] at h
  exact h
/-- how the document joins both halves -/
theorem ref_join {f : Nat} {m : List Pr} (hw : Sm.WF (f + 1) (m.map toP)) (h2 : 2 ≤ m.length) {x y : List UInt8} (hx : x = Sm.nd f ((sideR f true m).map toP)) (hy : y = Sm.nd f ((sideR f false m).map toP)) :
    (0 < x.length ∧ x.length ≤ 17) ∧ (0 < y.length ∧ y.length ≤ 17) ∧ ((sideR f true m).length = 0 ∧ (y.getD 0 0).toNat = 1 → Sm.nd (f + 1) (m.map toP) = y) ∧
    (¬ ((sideR f true m).length = 0 ∧ (y.getD 0 0).toNat = 1) → (sideR f false m).length = 0 ∧ (x.getD 0 0).toNat = 1 → Sm.nd (f + 1) (m.map toP) = x) ∧
    (¬ ((sideR f true m).length = 0 ∧ (y.getD 0 0).toNat = 1) → ¬ ((sideR f false m).length = 0 ∧ (x.getD 0 0).toNat = 1) → Sm.nd (f + 1) (m.map toP) = [2] ++ Sha.tagged 10 [x, y]) := by
  subst hx hy
  have w1 := hw.side true
  have w2 := hw.side false
  rw [← sideR_map] at w1 w2
  have l1 : Sb.isLf (Sm.nd f ((sideR f true m).map toP)) ↔ ((Sm.nd f ((sideR f true m).map toP)).getD 0 0).toNat = 1 := (nd_one0 w1).symm.trans ⟨fun h => by rw [h]; rfl, fun h => UInt8.toNat_inj.1 h⟩
  have l2 : Sb.isLf (Sm.nd f ((sideR f false m).map toP)) ↔ ((Sm.nd f ((sideR f false m).map toP)).getD 0 0).toNat = 1 := (nd_one0 w2).symm.trans ⟨fun h => by rw [h]; rfl, fun h => UInt8.toNat_inj.1 h⟩
  have e1 : Sm.nd f ((sideR f true m).map toP) = [0] ↔ (sideR f true m).length = 0 := (Sm.nd_eq0 w1).trans (by rw [List.map_eq_nil_iff, List.length_eq_zero_iff])
  have e2 : Sm.nd f ((sideR f false m).map toP) = [0] ↔ (sideR f false m).length = 0 := (Sm.nd_eq0 w2).trans (by rw [List.map_eq_nil_iff, List.length_eq_zero_iff])
  have hs := sideR_sum f m
  obtain ⟨j1, j2, j3⟩ := join_ref e1 e2 (by omega)
  rw [l1, l2] at j2 j3
  rw [l2] at j1
  have hj : Sm.nd (f + 1) (m.map toP) = Sb.join (Sm.nd f ((sideR f true m).map toP)) (Sm.nd f ((sideR f false m).map toP)) := by rw [Sm.nd_two f (by rw [List.length_map]; exact h2), sideR_map, sideR_map]
  rw [hj]
  exact ⟨⟨List.length_pos_iff.2 (nd_nn w1), Sm.nd_small _ _⟩, ⟨List.length_pos_iff.2 (nd_nn w2), Sm.nd_small _ _⟩, j1, j2, j3⟩

end Go.Proofs.YtnkfapecbmmpeaaDoor
