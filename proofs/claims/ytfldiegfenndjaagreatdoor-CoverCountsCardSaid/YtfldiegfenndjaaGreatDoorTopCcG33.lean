/- Rules for walking a translated function, over heaps that are apart: for any program. -/
import Derived.Test.YtfldiegfenndjaaGreatDoorTopCcG12
import Derived.Test.YtfldiegfenndjaaGreatDoorTopCcG5
import Derived.WideKeyRuns
set_option linter.unusedSimpArgs false
set_option linter.unusedVariables false
namespace Go.Fw
open Go Go.RowKit Go.MapKept
section
variable {κ : Type}
def kvK (K : κ → Value) (l : List (κ × Value)) : List (Value × Value) := l.map fun p => (K p.1, p.2)
def qOQ (K : κ → Value) (m : Hp) (g : Nat) (l : List (κ × Value)) : Prop := ∃ es clock, m g = some (.map es clock) ∧ Stamped es clock ∧ kvE es = kvK K l
def qIa (K : κ → Value) (m : Hp) (g : Nat) (l : List (κ × Value)) : Prop := ∃ es clock, m = qAN g (.map es clock) ∧ Stamped es clock ∧ kvE es = kvK K l
theorem qIa.at {K : κ → Value} {m g l} (h : qIa K m g l) : qOQ K m g l := by
  obtain ⟨es, c, rfl, h1, h2⟩ := h
  exact ⟨es, c, qAU _ _, h1, h2⟩
theorem qOQ.mono {K : κ → Value} {m m' g l} (h : qOQ K m g l) (hl : Le m m') : qOQ K m' g l :=
  let ⟨es, c, h0, h1, h2⟩ := h
  ⟨es, c, hl _ _ h0, h1, h2⟩
theorem qIa.nil (K : κ → Value) (g : Nat) : qIa K (qAN g (.map #[] 0)) g [] := ⟨#[], 0, rfl, stamped_empty 0, rfl⟩
variable [DecidableEq κ]
def qIG : List (κ × Value) → κ → Option Value
  | [], _ => none
  | p :: r, k => if p.1 = k then some p.2 else qIG r k
structure qQh (K : κ → Value) (P : Program) (kt : TypeId) : Prop where
  wide : (match P.underlying kt with | some (.array _ _) | some (.struct _) => true | _ => false) = true
  ck : ∀ (a : κ) (e : Bool) (w : World), (Instr.checkKey e 10000 kt (K a)).run P w = .ok () w
  eq : ∀ (a b : κ) (w : World), (Op.equal kt (K a) (K b)).run P w = .ok (decide (a = b)) w
  inj : ∀ a b : κ, K a = K b → a = b
theorem qCW {K : κ → Value} {P : Program} {kt : TypeId} (hk : qQh K P kt) (a : κ) (w : World) : ∀ (es : List MapEntry) (l : List (κ × Value)) (i : Nat), es.map (fun e => (e.key, e.val)) = kvK K l →
    (qIG l a = none ∧ (Instr.findAsking kt (K a) es i).run P w = .ok none w) ∨ ∃ j v, qIG l a = some v ∧ (Instr.findAsking kt (K a) es i).run P w = .ok (some (j, v)) w
  | [], [], _, _ => .inl ⟨rfl, by simp [Instr.findAsking]⟩
  | [], _ :: _, _, h => by cases h
  | _ :: _, [], _, h => by cases h
  | e :: es, p :: l, i, h => by
    simp only [kvK, List.map_cons, List.cons.injEq] at h
    obtain ⟨h1, h2⟩ := h
    injection h1 with hke hv
    by_cases hp : p.1 = a
    · refine .inr ⟨i, p.2, by rw [qIG, if_pos hp], ?_⟩
      simp only [Instr.findAsking, Sem.run_bind, hke, hk.eq, decide_eq_true hp.symm, Result.andThen_ok, if_true, Sem.run_pure, hv]
    · have hne : ¬ a = p.1 := fun e => hp e.symm
      have hf : (Instr.findAsking kt (K a) (e :: es) i).run P w = (Instr.findAsking kt (K a) es (i + 1)).run P w := by
        simp only [Instr.findAsking, Sem.run_bind, hke, hk.eq, decide_eq_false hne, Result.andThen_ok, Bool.false_eq_true, if_false]
      rw [hf]
      rcases qCW hk a w es l (i + 1) h2 with ⟨g1, g2⟩ | ⟨j, v, g1, g2⟩
      · exact .inl ⟨by rw [qIG, if_neg hp]; exact g1, g2⟩
      · exact .inr ⟨j, v, by rw [qIG, if_neg hp]; exact g1, g2⟩
theorem qNj {l : List (κ × Value)} {a : κ} (h : qIG l a = none) : ∀ p ∈ l, p.1 ≠ a := by
  induction l with
  | nil => intro p hp; cases hp
  | cons q r ih =>
    rw [qIG] at h
    split at h
    · cases h
    · rename_i hq
      intro p hp
      cases hp with
      | head => exact hq
      | tail _ hp => exact ih h p hp
variable {K : κ → Value} {P : Program} {env : Env} {rs ms : List Hp} {o : Oper}
theorem qIx {t x y g kt et} {l : List (κ × Value)} {s : κ} {z m} (hk : qQh K P kt) (ho : o.op = .lookup t x y false) (hx : ev env x = some (.map (some g))) (hy : ev env y = some (K s)) (ht : P.underlying t = some (.map kt et))
    (hz : ∀ w, (zeroValue et).run P w = .ok z w) (hm : m ∈ rs) (hmp : qOQ K m g l) : YOp P env rs o ((qIG l s).getD z) := fun n a w hkn hr => by
  obtain ⟨es, c, h0, hst, hkv⟩ := hmp.mono (hr m hm)
  have hg : w.heap[g]? = some (.map es c) := h0
  have hf := fun w => run_findKey_eq (P := P) w hk.wide (K s) es.toList
  rcases qCW hk s w es.toList l 0 hkv with ⟨g1, g2⟩ | ⟨j, v, g1, g2⟩
  · simp only [execOp, ho, hkn.ev hx, hkn.ev hy, Instr.lookup, run_underlying ht, Sem.run_bind, Result.andThen_ok, qBY hg, hk.ck, hf, g2, hz, g1, Sem.run_pure]
    rfl
  · simp only [execOp, ho, hkn.ev hx, hkn.ev hy, Instr.lookup, run_underlying ht, Sem.run_bind, Result.andThen_ok, qBY hg, hk.ck, hf, g2, hz, g1, Sem.run_pure]
    rfl
theorem qLK {t x y v g kt et} {l : List (κ × Value)} {s : κ} {u i m} (hk : qQh K P kt) (ho : o.op = .mapUpdate t x y v) (hx : ev env x = some (.map (some g))) (hy : ev env y = some (K s)) (hv : ev env v = some u) (ht : P.underlying t = some (.map kt et))
    (hi : ms[i]? = some m) (hmp : qIa K m g l) (hn0 : qIG l s = none) : EOp P env ms o (fun _ : Hp => undef) (fun m' => qIa K m' g (l ++ [(s, u)])) (fun m' => ms.set i m') := fun n a w0 w next Q hkn hs hn => by
  obtain ⟨es, c, rfl, hst, hkv⟩ := hmp
  have hg : w.heap[g]? = some (.map es c) := hs.mem (List.mem_of_getElem? hi) g _ (qAU _ _)
  have fin : ∀ es' c', Stamped es' c' → kvE es' = kvK K (l ++ [(s, u)]) → (execOp a.eval o).run P w = .ok .skip { w with heap := w.heap.setIfInBounds g (.map es' c') } → o.wp P a w next Q := fun es' c' h1 h2 hr => by
    unfold Oper.wp
    rw [hr, Oper.upon_skip]
    refine hn (qAN g (.map es' c')) _ ⟨es', c', rfl, h1, h2⟩ ?_
    have := hs.set hi (qAU _ _) (w' := { w with heap := w.heap.setIfInBounds g (.map es' c') }) (o' := .map es' c') rfl rfl rfl (by simp) (by
      funext k
      simp only [hp, qDg]
      by_cases hk' : k = g
      · subst hk'
        have := (Array.getElem?_eq_some_iff.1 hg).1
        simp [Array.getElem?_setIfInBounds, this]
      · rw [if_neg hk', Array.getElem?_setIfInBounds, if_neg (fun e => hk' e.symm)])
    rw [qBE] at this
    exact this
  have hf := run_findKey_eq (P := P) w hk.wide (K s) es.toList
  rcases qCW hk s w es.toList l 0 hkv with ⟨_, g2⟩ | ⟨j, v', g1, _⟩
  · refine fin (es.push { key := K s, val := u, born := c }) (c + 1) (stamped_push hst fun x hx' e => ?_) ?_ ?_
    · have h3 : (x.key, x.val) ∈ kvK K l := by rw [← hkv]; exact List.mem_map.2 ⟨x, hx', rfl⟩
      obtain ⟨p, hp, hpe⟩ := List.mem_map.1 h3
      injection hpe with hpe _
      exact qNj hn0 p hp (hk.inj _ _ (hpe.trans e))
    · simp only [kvE, kvK, Array.toList_push, List.map_append, List.map_cons, List.map_nil] at hkv ⊢
      rw [hkv]
    · simp only [execOp, ho, hkn.ev hx, hkn.ev hy, hkn.ev hv, Instr.mapUpdate, run_underlying ht, Sem.run_bind, Result.andThen_ok, qBY hg, hk.ck, hf, g2, run_setObj_map _ hg]
      rfl
  · rw [hn0] at g1; cases g1
end
section
variable {P : Program} {env : Env} {ms : List Hp}
end
end Go.Fw
