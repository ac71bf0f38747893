/- Rules for walking a translated function, over heaps that are apart: for any program. -/
import Derived.Test.YtadckkaepngloaaDoorFwI
set_option linter.unusedSimpArgs false
set_option linter.unusedVariables false
namespace Go.Fw
open Go
/-! ## Stores into rows, and lists mapped into cells -/
theorem setAt_map {α : Type} (f : α → Value) (l : List α) (k : Nat) (x : α) (h : k < l.length) : setAt (l.map f) k [f x] = (l.set k x).map f := by
  unfold setAt
  rw [List.length_singleton, List.set_eq_take_append_cons_drop, if_pos h, List.map_append, List.map_cons, List.map_take, List.map_drop]
  simp
theorem getMap {α : Type} {f : α → Value} {l : List α} {j : Nat} (d : α) (h : j < l.length) : (l.map f)[j]? = some (f (l.getD j d)) := by
  rw [List.getElem?_map, List.getElem?_eq_getElem h, List.getD_eq_getElem?_getD, List.getElem?_eq_getElem h]; rfl
theorem getSome {α : Type} {l : List α} {j : Nat} (d : α) (h : j < l.length) : l[j]? = some (l.getD j d) := by
  rw [List.getD_eq_getElem?_getD, List.getElem?_eq_getElem h]; rfl
theorem rep_flat {α : Type} (n : Nat) (v : α) : (List.replicate n [v]).flatten = List.replicate n v := by
  induction n with
  | zero => rfl
  | succ n ih => simp only [List.replicate_succ, List.flatten_cons, ih]; rfl
theorem rep_map {α : Type} (f : α → Value) (n : Nat) (x : α) : (List.replicate n x).map f = List.replicate n (f x) := List.map_replicate
theorem flatten_set {xs : List (List Value)} {sz : Nat} (h : ∀ x ∈ xs, x.length = sz) : ∀ {k : Nat} {x y : List Value}, xs[k]? = some x → ∀ {off : Nat} {vs : List Value}, setAt x off vs = y → off + vs.length ≤ sz →
    setAt xs.flatten (k * sz + off) vs = (xs.set k y).flatten := by
  induction xs with
  | nil => intro k x y hx; simp at hx
  | cons a xs ih =>
    intro k x y hx off vs hy hl
    have ha := h a (.head _)
    match k with
    | 0 =>
      simp at hx; subst hx
      simp only [Nat.zero_mul, Nat.zero_add, List.flatten_cons, List.set_cons_zero]
      rw [← hy]
      unfold setAt
      rw [List.take_append_of_le_length (by omega), List.drop_append_of_le_length (by omega), List.append_assoc, List.append_assoc, List.append_assoc]
    | k + 1 =>
      have := ih (fun y hy => h y (.tail _ hy)) (k := k) (by simpa using hx) hy hl
      simp only [List.flatten_cons, List.set_cons_succ]
      rw [← this]
      have e : (k + 1) * sz + off = a.length + (k * sz + off) := by rw [ha, Nat.add_mul]; omega
      unfold setAt
      rw [e, List.take_append, List.drop_append]
      simp only [Nat.add_sub_cancel_left]
      rw [List.take_of_length_le (l := a) (by omega), List.drop_of_length_le (l := a) (by omega), show a.length + (k * sz + off) + vs.length - a.length = k * sz + off + vs.length by omega]
      simp
theorem setAt_length {l vs : List Value} {k : Nat} (h : k + vs.length ≤ l.length) : (setAt l k vs).length = l.length := by
  unfold setAt; simp; omega
theorem setAt_append {l r vs : List Value} {k : Nat} (h : k + vs.length ≤ l.length) : setAt (l ++ r) k vs = setAt l k vs ++ r := by
  unfold setAt
  rw [List.take_append_of_le_length (by omega), List.drop_append_of_le_length (by omega)]
  simp
theorem one_strs (a : List (List UInt8)) : (strsV a).all (fun x => x.all Value.oneCell') = true := by simp [strsV, Value.oneCell']
theorem one_map {α : Type} (f : α → List Value) (h : ∀ x, (f x).all Value.oneCell' = true) (a : List α) : (a.map f).all (fun x => x.all Value.oneCell') = true := by simp [h]
section
variable {P : Program} {env : Env} {rs ms : List Hp} {o : Oper}
/-- an element of a row, or a part of it, is written -/
theorem op_storeRow {t x y g j k off e sz n' c v i m} {xs : List (List Value)} {a b : List Value} (ho : o.op = .store t x y) (hx : ev env x = some (.pointer (some ⟨g, j, none⟩))) (hy : ev env y = some v) (hi : ms[i]? = some m) (hr : Row m e sz (some ⟨g, 0, none⟩) n' c xs)
    {vs : List Value} (hv : v.cells = vs.toArray) (hz : ∀ w, (sizeOf t).run P w = .ok vs.length w) (h1 : vs.all Value.oneCell' = true) (hj : j = k * sz + off) (ha : xs[k]? = some a) (hb : setAt a off vs = b) (hl : off + vs.length ≤ sz) :
    EOp P env ms o (fun _ : Hp => undef) (fun m' => Row m' e sz (some ⟨g, 0, none⟩) n' c (xs.set k b)) (fun m' => ms.set i m') := fun n ac w0 w next Q hkn hs hn => by
  obtain ⟨h1', hsz, hnc, hcase⟩ := hr
  have hka : k < xs.length := (List.getElem?_eq_some_iff.1 ha).1
  rcases hcase with ⟨hA, _⟩ | ⟨g', rest, lo, hi', hA, hm, hlen, hf⟩
  · cases hA
  · cases hA
    have hg : w.heap[g]? = some (.cells (xs.flatten ++ rest).toArray e (lo, hi')) := hs.mem (List.mem_of_getElem? hi) g _ (by rw [hm]; exact single_self _ _)
    have hfl := length_flatten hsz
    have hb1 : k * sz + off + vs.length ≤ xs.flatten.length := by
      rw [hfl]
      have := Nat.mul_le_mul_right sz (show k + 1 ≤ xs.length by omega)
      rw [Nat.add_mul] at this; omega
    have hb2 : xs.flatten.length ≤ c * sz := by rw [hfl, h1']; exact Nat.mul_le_mul_right _ hnc
    have hst := run_storeCells_fz P g j e lo hi' vs 0 (xs.flatten ++ rest).toArray w hg (by rw [List.size_toArray, List.length_append]; omega) (by
      rcases hf with h | h | h
      · omega
      · have := h.2; omega
      · exact absurd trivial h.1) (by simpa [List.all_eq_true] using h1)
    simp only [Nat.add_zero] at hst
    have e1 : (xs.flatten ++ rest).toArray.toList.take j ++ vs ++ (xs.flatten ++ rest).toArray.toList.drop (j + vs.length) = (xs.set k b).flatten ++ rest := by
      have e2 := setAt_append (l := xs.flatten) (r := rest) (k := j) (vs := vs) (by omega)
      have e3 := flatten_set hsz ha hb hl
      rw [← hj] at e3
      rw [← e3, ← e2]; rfl
    rw [e1] at hst
    have hbl : b.length = sz := by
      rw [← hb, setAt_length (by rw [hsz a (List.mem_of_getElem? ha)]; exact hl)]; exact hsz a (List.mem_of_getElem? ha)
    have hsz' : ∀ z ∈ xs.set k b, z.length = sz := fun z hz' => by
      rcases List.mem_or_eq_of_mem_set hz' with h | h
      · exact hsz z h
      · rw [h]; exact hbl
    unfold Oper.wp
    have hrun : (execOp ac.eval o).run P w = .ok .skip (w.setRow g ((xs.set k b).flatten ++ rest).toArray) := by
      simp [execOp, ho, hkn.ev hx, hkn.ev hy, Instr.storeAt, Instr.sureAddr, storeVar, hz, hv, hst]
    rw [hrun, Oper.upon_skip]
    refine hn (single g (.cells ((xs.set k b).flatten ++ rest).toArray e (lo, hi'))) _ ?_ ?_
    · refine ⟨by simp [h1'], hsz', hnc, .inr ⟨g, rest, lo, hi', rfl, rfl, ?_, hf⟩⟩
      rw [List.length_append, length_flatten hsz', List.length_set, ← hfl, ← List.length_append]; exact hlen
    · have := hs.set hi (g := g) (o := .cells (xs.flatten ++ rest).toArray e (lo, hi')) (by rw [hm]; exact single_self _ _) (w' := w.setRow g ((xs.set k b).flatten ++ rest).toArray) (o' := .cells ((xs.set k b).flatten ++ rest).toArray e (lo, hi')) rfl rfl rfl (by simp [World.setRow]) (hp_setRow hg _)
      rw [hm, put1_single] at this
      exact this
/-- a row of elements lies at a block's beginning -/
theorem RowQ.at {q m e sz A n c xs} (h : RowQ q m e sz A n c xs) (hn : 0 < n) : ∃ g, A = some ⟨g, 0, none⟩ := by
  obtain ⟨h1, h2, h3, h4⟩ := h
  rcases h4 with ⟨_, hc, _⟩ | ⟨g, rest, lo, hi, hA, _⟩
  · omega
  · exact ⟨g, hA⟩
end
end Go.Fw
