/- Rules for walking a translated function, over heaps that are apart: for any program. -/
import Derived.Test.YtnkfapecbmmpeaaDoorTopSiG4
import Derived.Laws.StructEq
set_option linter.unusedSimpArgs false
set_option linter.unusedVariables false
namespace Go.Fw
open Go
/-! ## Structs, closures, heaps that are made of two -/
theorem Sl.at {m : Hp} {sz A n c xs} (h : Sl m sz A n c xs) (hn : 0 < n) : ∃ g o, A = some ⟨g, o, none⟩ := by
  have h0 : 0 < xs.length := by rw [h.1]; exact hn
  obtain ⟨_, ad, hA, hc⟩ := h.2.2 0 xs[0] (List.getElem?_eq_getElem h0)
  simp only [Nat.zero_mul, add_zero'] at hc
  obtain ⟨b, o, s⟩ := ad
  have : s = none := hc.1
  subst this
  exact ⟨b, o, hA⟩
theorem elemAt_mk (g o i sz : Nat) : elemAt (some ⟨g, o, none⟩) i sz = ⟨g, o + i * sz, none⟩ := by
  unfold elemAt
  simp only [Option.getD_some]
  rw [Addr.add_lit]
theorem Sl.cells {m : Hp} {sz g o n c xs} (h : Sl m sz (some ⟨g, o, none⟩) n c xs) {i : Nat} {x : List Value} (hx : xs[i]? = some x) : Cells m ⟨g, o + i * sz, none⟩ x := by
  have := h.elem hx
  rw [elemAt_mk] at this
  exact this
theorem Cells.at {m : Hp} {g off : Nat} {vs : List Value} {i : Nat} {v : Value} (h : Cells m ⟨g, off, none⟩ vs) (hi : vs[i]? = some v) : Cells m ⟨g, off + i, none⟩ [v] := by
  have := h.sub i 1
  rw [Addr.add_lit] at this
  obtain ⟨hk, rfl⟩ := List.getElem?_eq_some_iff.1 hi
  rw [List.drop_eq_getElem_cons hk] at this
  exact this
theorem Sl.cell {m : Hp} {sz g o n c xs} (h : Sl m sz (some ⟨g, o, none⟩) n c xs) {i k : Nat} {x : List Value} {v : Value} (hx : xs[i]? = some x) (hv : x[k]? = some v) : Cells m ⟨g, o + i * sz + k, none⟩ [v] := (h.cells hx).at hv
section
variable {P : Program} {env : Env} {rs ms : List Hp} {o : Oper}
/-! structs are compared -/
theorem op_neS {t t' x y} {xs ys : Array Value} {b : Bool} (ho : o.op = .binOp .neq t x y t') (hx : ev env x = some (.agg xs)) (hy : ev env y = some (.agg ys)) (hm : P.eqGuardType P.depth t = false) (h : ∀ w, (Op.equalIn 10000 t (.agg xs) (.agg ys)).run P w = .ok b w) : YOp P env rs o (.bool (!b)) := fun n a w hk _ => by
  simp only [execOp, ho, hk.ev hx, hk.ev hy]
  have hg := run_eqGuard_agg (P := P) w .neq t x y xs ys hm
  have hb := run_neq_struct (P := P) w t xs ys
  rw [h] at hb
  simp only [Result.andThen_ok] at hb
  rw [Sem.run_bind, Sem.run_bind, hg, Result.andThen_ok, hb]
  rfl
/-! closures -/
theorem op_makeFunc {f xs vs} (ho : o.op = .makeFunc (.func f) #[] xs) (hv : evs env xs.toList = some vs) : YOp P env rs o (.func (.func f) #[] vs.toArray) := fun n a w hk _ => by
  have hev := hk.evs hv
  have : xs.map a.eval = vs.toArray := by rw [← hev]; apply Array.ext'; simp
  simp [execOp, ho, Instr.makeFunc, this]
end
/-! two heaps as one -/
theorem U2 {a b : Hp} {g : Nat} {o : Obj} (h : U [a, b] g = some o) : a g = some o ∨ b g = some o := by
  obtain ⟨m, hm, hg⟩ := U_some h
  simp only [List.mem_cons, List.not_mem_nil, or_false] at hm
  rcases hm with rfl | rfl
  · exact .inl hg
  · exact .inr hg
theorem le_U2l (a b : Hp) : Le a (U [a, b]) := fun g o h => by simp only [U, h]
theorem le_U2r {a b : Hp} (hd : Dj a b) : Le b (U [a, b]) := fun g o h => by
  rcases hd g with h1 | h1
  · simp only [U, h1, h]
  · rw [h] at h1; cases h1
theorem dj_U2 {a b m : Hp} (h1 : Dj a m) (h2 : Dj b m) : Dj (U [a, b]) m := fun g => by
  rcases h1 g with h | h
  · rcases h2 g with h' | h'
    · left; simp only [U, h, h']
    · exact .inr h'
  · exact .inr h
theorem dj_of_U2l {a b m : Hp} (h : Dj (U [a, b]) m) : Dj a m := fun g => by
  rcases h g with h1 | h1
  · left
    cases ha : a g with
    | none => rfl
    | some o => simp only [U, ha] at h1; cases h1
  · exact .inr h1
theorem dj_of_U2r {a b m : Hp} (hd : Dj a b) (h : Dj (U [a, b]) m) : Dj b m := fun g => by
  rcases h g with h1 | h1
  · left
    cases hb : b g with
    | none => rfl
    | some o => rw [le_U2r hd g o hb] at h1; cases h1
  · exact .inr h1
theorem St.splitU {w0 : Wd} {w : World} {a b : Hp} {r : List Hp} (hd : Dj a b) (h : St w0 (U [a, b] :: r) w) : St w0 (a :: b :: r) w := by
  have hp := Djs_iff.1 h.dj
  rw [List.pairwise_cons] at hp
  refine h.intro_of (Djs_iff.2 ?_) ?_ ?_
  · rw [List.pairwise_cons, List.pairwise_cons]
    refine ⟨fun m hm => ?_, fun m hm => dj_of_U2r hd (hp.1 m hm), hp.2⟩
    rcases List.mem_cons.1 hm with rfl | hm
    · exact hd
    · exact dj_of_U2l (hp.1 m hm)
  · intro m hm
    rcases List.mem_cons.1 hm with rfl | hm
    · exact (le_U2l m b).trans (h.mem (.head _))
    · rcases List.mem_cons.1 hm with rfl | hm
      · exact (le_U2r hd).trans (h.mem (.head _))
      · exact h.mem (.tail _ hm)
  · intro m hm
    rcases List.mem_cons.1 hm with rfl | hm
    · exact (dj_of_U2l (h.kd _ (.head _)).symm).symm
    · rcases List.mem_cons.1 hm with rfl | hm
      · exact (dj_of_U2r hd (h.kd _ (.head _)).symm).symm
      · exact h.kd _ (.tail _ hm)
theorem St.joinU {w0 : Wd} {w : World} {a b : Hp} {r : List Hp} (h : St w0 (a :: b :: r) w) : St w0 (U [a, b] :: r) w := by
  have hp := Djs_iff.1 h.dj
  rw [List.pairwise_cons, List.pairwise_cons] at hp
  refine h.intro_of (Djs_iff.2 ?_) ?_ ?_
  · rw [List.pairwise_cons]
    exact ⟨fun m hm => dj_U2 (hp.1 m (.tail _ hm)) (hp.2.1 m hm), hp.2.2⟩
  · intro m hm
    rcases List.mem_cons.1 hm with rfl | hm
    · intro g o ho
      rcases U2 ho with h1 | h1
      · exact h.mem (.head _) g o h1
      · exact h.mem (.tail _ (.head _)) g o h1
    · exact h.mem (.tail _ (.tail _ hm))
  · intro m hm
    rcases List.mem_cons.1 hm with rfl | hm
    · exact (dj_U2 (h.kd _ (.head _)).symm (h.kd _ (.tail _ (.head _))).symm).symm
    · exact h.kd _ (.tail _ (.tail _ hm))
theorem St.dj2 {w0 : Wd} {w : World} {a b : Hp} {r : List Hp} (h : St w0 (a :: b :: r) w) : Dj a b := by
  have hp := Djs_iff.1 h.dj
  rw [List.pairwise_cons] at hp
  exact hp.1 b (.head _)
theorem J.splitU {n : Nat} {env : Env} {w0 : Wd} {φ : Act → World → Prop} {a b : Hp} {r : List Hp} (hd : Dj a b) (h : J n env w0 (a :: b :: r) φ) : J n env w0 (U [a, b] :: r) φ := fun ac w hk hs => h ac w hk (hs.splitU hd)
/-- the first two become one -/
theorem J.joinU {n : Nat} {env : Env} {w0 : Wd} {φ : Act → World → Prop} {a b : Hp} {r : List Hp} (h : Dj a b → J n env w0 (U [a, b] :: r) φ) : J n env w0 (a :: b :: r) φ := fun ac w hk hs => h hs.dj2 ac w hk hs.joinU
theorem retOkU {ms : List Hp} {X : Type} {val : X → Value} {φ : X → Prop} {ms' : X → List Hp} {v : Value} {w0 : Wd} {a b : Hp} {r : List Hp} (x : X) (hv : v = val x) (hx : Dj a b → φ x) (ix : List Nat) (hm : pick ms ix = a :: b :: r) (hms : ms' x = U [a, b] :: r) (hn : ix.Nodup) :
    ∀ w, St w0 ms w → ∃ x, Ending.returned v = .returned (val x) ∧ φ x ∧ St w0 (ms' x) w := fun w hs => by
  have h := hm ▸ hs.pick ix hn
  exact ⟨x, by rw [hv], hx h.dj2, by rw [hms]; exact h.joinU⟩
end Go.Fw
