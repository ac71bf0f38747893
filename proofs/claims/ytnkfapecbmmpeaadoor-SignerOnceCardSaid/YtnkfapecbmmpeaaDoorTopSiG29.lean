/- A part of the proof: contracts of functions of the program, each for every state of the heaps that it names. -/
import Derived.Test.YtnkfapecbmmpeaaDoorTopSiG28
import Derived.Test.YtnkfapecbmmpeaaDoorTopSiG25
import Derived.SizedLaws
set_option linter.unusedSimpArgs false
set_option linter.unusedVariables false
namespace Go.Proofs.YtnkfapecbmmpeaaDoor
open Go Go.Fw
set_option maxRecDepth 100000
set_option maxHeartbeats 1000000
theorem bytes_of {H : Type} {enc : TypeId × Value → H} {P : Program} {W : World} {e : TypeId} {xs : List (List Value)} (he : P.underlying e = some (.int .u8)) (hc : P.cellsOf e = 1) (h : ∀ x ∈ xs, x.length = 1 ∧ ∃ fuel y, DataW.trod enc P W 0 (fun _ => true) true fuel e x = some y) : ∃ l : List UInt8, xs = bytesV l := by
  obtain ⟨l, hl, _⟩ := rows_of (f := fun b : UInt8 => [B8 b]) (Q := fun _ => True) (xs := xs) fun x hx => by
    obtain ⟨h1, fuel, y, hy⟩ := h x hx
    match x, h1, hy with
    | [v], _, hy =>
      obtain ⟨b, rfl⟩ := u8_of he hy
      exact ⟨b, rfl, trivial⟩
  exact ⟨l, hl⟩
theorem sl_rows {m : Hp} {sz A n c xs} (h : Sl m sz A n c xs) : ∀ x ∈ xs, x.length = sz := fun x hx => by
  obtain ⟨i, hi⟩ := List.mem_iff_getElem?.1 hx
  exact (h.2.2 i x hi).1

theorem weights_in {H : Type} {P : Program} {e : TypeId} : ∀ {l : List (DataW H)} {d : DataW H}, d ∈ l → ∀ n ∈ d.weights P e, n ∈ DataW.weightsAll P e l
  | x :: r, d, hd, n, hn => by
    simp only [DataW.weightsAll, List.mem_append]
    rcases List.mem_cons.1 hd with rfl | hd
    · exact .inl hn
    · exact .inr (weights_in hd n hn)
theorem sl_ofW {H : Type} {enc : TypeId × Value → H} {P : Program} {W : World} {t e : TypeId} {fuel : Nat} {x : Value} {y : DataW H × List MemPlace} {R : Nat} (ht : P.underlying t = some (.slice e)) (he : 0 < P.cellsOf e) (h : DataW.trod enc P W 0 (fun _ => true) true fuel t [x] = some y) (hw : ∀ n ∈ y.1.weights P t, n ≤ R) :
    ∃ A n c xs, x = .slice A n c ∧ Sl (hp W) (P.cellsOf e) A n c xs ∧ n ≤ maxLen ∧ n * P.bytesOf e ≤ R ∧ ∀ z ∈ xs, ∃ fuel y, DataW.trod enc P W 0 (fun _ => true) true fuel e z = some y ∧ ∀ n ∈ y.1.weights P e, n ≤ R := by
  rcases DataW.trod_slice ht h with ⟨hx, _⟩ | ⟨a, len, cap, elems, rest, n, _, hcs, hy, _, hl, hm, hlen, hel, _, _⟩
  · simp only [List.cons.injEq, and_true] at hx
    subst hx
    exact ⟨none, 0, 0, [], rfl, Sl.nil, Nat.zero_le _, by rw [Nat.zero_mul]; exact Nat.zero_le _, by simp⟩
  · simp only [List.cons.injEq, and_true] at hcs
    subst hcs
    subst hy
    have hw1 : ∀ d ∈ elems.map (·.1), ∀ n ∈ d.weights P e, n ≤ R := fun d hd n hn => hw n (by
      simp only [DataW.weights, ht, List.mem_cons, List.mem_append]
      exact .inr (.inl (weights_in hd n hn)))
    have key : ∀ i, i < len → ∃ z y, W.cells? 0 (a.add (i * P.cellsOf e)) (P.cellsOf e) = some z ∧ DataW.trod enc P W 0 (fun _ => true) true n e z = some y ∧ ∀ n ∈ y.1.weights P e, n ≤ R := fun i hi => by
      have h1 := hel i hi
      rw [List.getElem?_eq_getElem (by omega)] at h1
      obtain ⟨z, h2, h3⟩ := Option.bind_eq_some_iff.1 h1
      exact ⟨z, _, h2, h3, hw1 _ (List.mem_map_of_mem (List.getElem_mem _))⟩
    refine ⟨some a, len, cap, (List.range len).map fun i => (W.cells? 0 (a.add (i * P.cellsOf e)) (P.cellsOf e)).getD [], rfl, ⟨by rw [List.length_map, List.length_range], hl, fun i z hz => ?_⟩, Nat.le_trans hl hm, ?_, fun z hz => ?_⟩
    · rw [List.getElem?_map] at hz
      by_cases hi : i < len
      · rw [List.getElem?_range hi] at hz
        obtain ⟨z', _, h2, _⟩ := key i hi
        simp only [Option.map_some, h2, Option.getD_some, Option.some.injEq] at hz
        subst hz
        obtain ⟨h5, h6⟩ := cells_Cells he h2
        exact ⟨h5, a, rfl, h6⟩
      · rw [List.getElem?_eq_none (by rw [List.length_range]; omega)] at hz; cases hz
    · have := hw ((elems.length + rest.length) * P.bytesOf e) (by simp [DataW.weights, ht])
      rw [← hlen]
      exact Nat.le_trans (Nat.mul_le_mul_right _ (Nat.le_add_right _ _)) this
    · obtain ⟨i, hi, rfl⟩ := List.mem_map.1 hz
      obtain ⟨z', y', h2, h3⟩ := key i (List.mem_range.1 hi)
      rw [h2]
      exact ⟨n, y', h3⟩

end Go.Proofs.YtnkfapecbmmpeaaDoor
