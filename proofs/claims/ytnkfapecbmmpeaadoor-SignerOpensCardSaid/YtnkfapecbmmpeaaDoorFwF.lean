/- Rules for walking a translated function, over heaps that are apart: for any program. -/
import Derived.Test.YtnkfapecbmmpeaaDoorFwE
import Derived.RangeFuncLeaves
import Derived.RangeFuncRecord
set_option linter.unusedSimpArgs false
set_option linter.unusedVariables false
namespace Go.Fw
open Go
section
variable {P : Program} {env : Env} {rs ms : List Hp} {o : Oper}

/-! ## Texts and bytes -/
def bytesV (l : List UInt8) : List (List Value) := l.map fun c => [B8 c]
def strsV (l : List (List UInt8)) : List (List Value) := l.map fun s => [Str s]
def intsV (l : List Int) : List (List Value) := l.map fun s => [I s]

theorem flatten_sing {α β : Type} (f : α → β) (l : List α) : (l.map fun c => [f c]).flatten = l.map f := by
  induction l with
  | nil => rfl
  | cons a l ih => simp only [List.map_cons, List.flatten_cons, ih]; rfl

/-- '[]byte(s)' -/
theorem op_toBytes {src dst e x l} (ho : o.op = .convert src dst x) (hx : ev env x = some (Str l)) (hs : P.underlying src = some .string) (hd : P.underlying dst = some (.slice e)) (he : P.underlying e = some (.int .u8)) :
    EOp P env ms o (fun x : Nat × Nat × Hp => .slice (some ⟨x.1, 0, none⟩) l.length x.2.1) (fun x => Row x.2.2 e 1 (some ⟨x.1, 0, none⟩) l.length x.2.1 (bytesV l)) (fun x => ms ++ [x.2.2]) := .ofRun fun n a w0 w hk hst => by
  have hr := run_bytes_of_string (P := P) w src dst e ⟨l.toArray⟩ hs hd he
  rw [size_mk] at hr
  have hge := grownCap_ge w l.length 0 e
  have hrow : bytesRow ⟨l.toArray⟩ (grownCap w l.length 0 e) = ((bytesV l).flatten ++ List.replicate (grownCap w l.length 0 e - l.length) (Value.int .u8 0)).toArray := by
    unfold bytesV
    rw [flatten_sing]
    simp [bytesRow, size_mk]
  have hlen : ((bytesV l).flatten ++ List.replicate (grownCap w l.length 0 e - l.length) (Value.int .u8 0)).length = grownCap w l.length 0 e * 1 := by
    unfold bytesV
    rw [flatten_sing]; simp; omega
  rw [hrow] at hr
  refine ⟨(w.heap.size, grownCap w l.length 0 e, single w.heap.size (.cells ((bytesV l).flatten ++ List.replicate (grownCap w l.length 0 e - l.length) (Value.int .u8 0)).toArray e
    (((bytesV l).flatten ++ List.replicate (grownCap w l.length 0 e - l.length) (Value.int .u8 0)).toArray.size, ((bytesV l).flatten ++ List.replicate (grownCap w l.length 0 e - l.length) (Value.int .u8 0)).toArray.size + 1))), _, ?_, ?_, hst.newBlock _⟩
  · simp only [execOp, ho, hk.ev hx]
    rw [Sem.run_bind, hr]
    rfl
  · refine row_new rfl (by simp [bytesV]) (by simp [bytesV]) hlen hge (.inr (.inl ⟨trivial, ?_⟩))
    exact Nat.le_of_eq (hlen.symm.trans List.size_toArray.symm)

/-- 'string(b)' -/
theorem op_toStr {src dst e x A c m} {l : List UInt8} {n' : Nat} (ho : o.op = .convert src dst x) (hx : ev env x = some (.slice A n' c)) (hs : P.underlying src = some (.slice e)) (he : P.underlying e = some (.int .u8)) (hd : P.underlying dst = some .string)
    (hm : m ∈ rs) (hl : Sl m 1 A n' c (bytesV l)) : YOp P env rs o (Str l) := fun n a w hk hr => by
  have hn : l.length = n' := by have := hl.1; simpa [bytesV] using this
  subst hn
  have hsl := hl.mono (hr m hm)
  have hrun : (convert src dst (.slice A l.length c)).run P w = .ok (Str l) w := by
    by_cases h0 : 0 < l.length
    · obtain ⟨ad, hA, hc⟩ := hsl.flat h0
      subst hA
      refine run_convert_bytes_back (P := P) w src dst e ad c l hs he hd (fun j hj => ?_)
      refine hc.cell ?_
      unfold bytesV
      rw [flatten_sing]
      simp [hj]
    · have : l = [] := List.eq_nil_of_length_eq_zero (by omega)
      subst this
      rw [List.length_nil, run_convert_bytes_string w src dst e A 0 c hs he hd]
      cases A <;> simp [Conv.bytesToString, loadCells, loadCellsFrom] <;> rfl
  simp only [execOp, ho, hk.ev hx]
  rw [Sem.run_bind, hrun]
  rfl

/-! ## Calls -/
/-- what a function does, in the words of heaps: from any state that holds the heaps ms to one that holds ms' -/
def Ct (P : Program) (f : FuncId) (vs : List Value) (ms : List Hp) {X : Type} (val : X → Value) (φ : X → Prop) (ms' : X → List Hp) : Prop :=
  ∀ w0 w, St w0 ms w → Calls P f vs.toArray w fun e w' => ∃ x, e = .returned (val x) ∧ φ x ∧ St w0 (ms' x) w'

/-- a call of f enters f -/
def Enters (P : Program) (f : FuncId) : Prop := ∀ args w, (callFunc f args).run P w = .ok (.enter f args) w

theorem run_program (w : World) : (program).run P w = .ok P w := rfl
theorem Enters.of {f : FuncId} {fn : Func} {c : Code} (hf : P.funcs[f]? = some fn) (hb : fn.body = some c) (hn : (fn.name == "runtime.NumGoroutine") = false) : Enters P f := fun args w => by
  unfold callFunc
  rw [Sem.run_bind, run_program, Result.andThen_ok, hf]
  simp only [hn, hb]
  rfl

theorem op_call {f xs vs tys} {X : Type} {val : X → Value} {φ : X → Prop} {ms' : X → List Hp} (ho : o.op = .call { callee := .value (.func f), args := xs, argTypes := tys }) (hv : evs env xs.toList = some vs) (hf : Enters P f) (hc : Ct P f vs ms val φ ms') :
    EOp P env ms o val φ ms' := fun n a w0 w next Q hk hs hn => by
  have hev := hk.evs hv
  unfold Oper.wp
  have hr : (execOp a.eval o).run P w = .ok (.enter f vs.toArray) w := by
    have : xs.map a.eval = vs.toArray := by rw [← hev]; apply Array.ext'; simp
    have hf' := hf vs.toArray w
    simp [execOp, ho, resolve, Act.eval, Deferred.ofValue, invoke, this, hf']
  rw [hr, Oper.upon_enter]
  refine (hc w0 w hs).mono fun e w' ⟨x, he, hx, hs'⟩ => ?_
  subst he
  exact hn x w' hx hs'

theorem Ct.mono {f vs} {X Y : Type} {val : X → Value} {φ : X → Prop} {ms' : X → List Hp} {val2 : Y → Value} {φ2 : Y → Prop} {ms2 : Y → List Hp} (h : Ct P f vs ms val φ ms')
    (g : X → Y) (hv : ∀ x, φ x → val x = val2 (g x)) (hφ : ∀ x, φ x → φ2 (g x)) (hm : ∀ x w0 w, φ x → St w0 (ms' x) w → St w0 (ms2 (g x)) w) : Ct P f vs ms val2 φ2 ms2 := fun w0 w hs =>
  (h w0 w hs).mono fun e w' ⟨x, he, hx, hs'⟩ => ⟨g x, by rw [he, hv x hx], hφ x hx, hm x w0 w' hx hs'⟩

/-- one heap for all -/
theorem St.one {w0 w} (h : St w0 ms w) : St w0 [U ms] w := ⟨h.os, h.out, h.tape, h.size, ⟨fun g => .inr rfl, trivial⟩, fun g o ho => h.le g o (by simp only [U] at ho; cases hg : U ms g with | none => rw [hg] at ho; cases ho | some x => rw [hg] at ho; exact ho), fun m hm => by
  simp only [List.mem_singleton] at hm
  subst hm
  exact h.kU, h.kl⟩

/-- a function that turns none of what is there: used among any heaps -/
theorem Ct.use {f vs} {X : Type} {val : X → Value} {φ : X → Prop} {new : X → List Hp} (h : ∀ F, (∀ m ∈ ms, Le m F) → Ct P f vs [F] val φ (fun x => F :: new x)) : Ct P f vs ms val φ (fun x => ms ++ new x) := fun w0 w hs => by
  refine (h (U ms) (fun m hm => le_U hs.dj hm) w0 w hs.one).mono fun e w' ⟨x, he, hx, hs'⟩ => ⟨x, he, hx, ?_⟩
  refine hs'.intro_of ?_ ?_ ?_
  · rw [Djs_iff, List.pairwise_append]
    refine ⟨Djs_iff.1 hs.dj, Djs_iff.1 hs'.dj.2, fun m hm m' hm' g => ?_⟩
    have := (Dj.U_right.1 hs'.dj.1) m' hm' g
    rcases this with h1 | h1
    · exact .inl (U_none.1 h1 m hm)
    · exact .inr h1
  · intro m hm
    rcases List.mem_append.1 hm with hm | hm
    · exact (le_U hs.dj hm).trans (hs'.mem (.head _))
    · exact hs'.mem (.tail _ hm)
  · intro m hm
    rcases List.mem_append.1 hm with hm | hm
    · exact hs.kd m hm
    · exact hs'.kd m (.tail _ hm)
theorem Ct.use0 {f vs} {X : Type} {val : X → Value} {φ : X → Prop} (h : ∀ F, (∀ m ∈ ms, Le m F) → Ct P f vs [F] val φ (fun _ => [F])) : Ct P f vs ms val φ (fun _ => ms) := by
  have := Ct.use (ms := ms) (new := fun _ : X => []) h
  simpa using this

/-- a function that turns one heap: number i -/
theorem Ct.use1 (i : Nat) {m : Hp} {f vs} {X : Type} {val : X → Value} {φ : X → Prop} {m' : X → Hp} {new : X → List Hp} (hi : ms[i]? = some m)
    (h : ∀ F, (∀ m' ∈ ms.eraseIdx i, Le m' F) → Ct P f vs [m, F] val φ (fun x => m' x :: F :: new x)) : Ct P f vs ms val φ (fun x => ms.set i (m' x) ++ new x) := fun w0 w hs => by
  have hlt : i < ms.length := (List.getElem?_eq_some_iff.1 hi).1
  have hmi : ms[i] = m := (List.getElem?_eq_some_iff.1 hi).2
  have hde : Djs (ms.eraseIdx i) := Djs_iff.2 ((Djs_iff.1 hs.dj).sublist (List.eraseIdx_sublist _ _))
  have hdm : Dj m (U (ms.eraseIdx i)) := Dj.U_right.2 fun x hx => by
    obtain ⟨j, hj⟩ := List.mem_iff_getElem?.1 hx
    rw [List.getElem?_eraseIdx] at hj
    split at hj
    · exact Djs_get hs.dj hi hj (by omega)
    · exact Djs_get hs.dj hi hj (by omega)
  have hs2 : St w0 [m, U (ms.eraseIdx i)] w := hs.intro_of ⟨by simpa [U] using (Dj.U_right.2 (by simpa using hdm) : Dj m (U [U (ms.eraseIdx i)])), ⟨fun g => .inr rfl, trivial⟩⟩ (by
    intro x hx
    simp only [List.mem_cons, List.not_mem_nil, or_false] at hx
    rcases hx with rfl | rfl
    · exact hs.mem (List.mem_of_getElem? hi)
    · intro g o ho
      obtain ⟨m', hm', hg⟩ := U_some ho
      exact hs.mem (List.mem_of_mem_eraseIdx hm') g o hg) (by
    intro x hx
    simp only [List.mem_cons, List.not_mem_nil, or_false] at hx
    rcases hx with rfl | rfl
    · exact hs.kd _ (List.mem_of_getElem? hi)
    · exact Dj.U_right.2 fun y hy => hs.kd y (List.mem_of_mem_eraseIdx hy))
  refine (h _ (fun x hx => le_U hde hx) w0 w hs2).mono fun e w' ⟨x, he, hx, hs'⟩ => ⟨x, he, hx, ?_⟩
  have d1 := hs'.dj.1
  have d2 := hs'.dj.2.1
  rw [Dj.U_right] at d1 d2
  have hF : ∀ y ∈ ms.eraseIdx i, Le y (hp w') := fun y hy => (le_U hde hy).trans (hs'.mem (.tail _ (.head _)))
  have hdj' : ∀ {z : Hp}, Dj z (U (ms.eraseIdx i)) → ∀ y ∈ ms.eraseIdx i, Dj z y := fun h => Dj.U_right.1 h
  have hin : ∀ j, j < ms.length → j ≠ i → ∀ y, ms[j]? = some y → y ∈ ms.eraseIdx i := fun j hj hne y hy => by
    rw [List.mem_iff_getElem?]
    by_cases hji : j < i
    · exact ⟨j, by rw [List.getElem?_eraseIdx, if_pos hji]; exact hy⟩
    · refine ⟨j - 1, ?_⟩
      rw [List.getElem?_eraseIdx, if_neg (by omega), show j - 1 + 1 = j by omega]; exact hy
  refine hs'.intro_of ?_ ?_ ?_
  · rw [Djs_iff, List.pairwise_append]
    refine ⟨?_, Djs_iff.1 hs'.dj.2.2, ?_⟩
    · rw [List.pairwise_iff_getElem]
      intro a b ha hb hab
      simp only [List.length_set] at ha hb
      simp only [List.getElem_set]
      by_cases ea : i = a
      · rw [if_pos ea, if_neg (by omega)]
        exact hdj' (d1 _ (.head _)) _ (hin b hb (by omega) _ (List.getElem?_eq_getElem hb))
      · rw [if_neg ea]
        by_cases eb : i = b
        · rw [if_pos eb]
          exact (hdj' (d1 _ (.head _)) _ (hin a ha (by omega) _ (List.getElem?_eq_getElem ha))).symm
        · rw [if_neg eb]
          exact Djs_get hs.dj (List.getElem?_eq_getElem ha) (List.getElem?_eq_getElem hb) (by omega)
    · intro y hy z hz g
      rcases List.mem_iff_getElem?.1 hy with ⟨j, hj⟩
      rw [List.getElem?_set] at hj
      split at hj
      · cases hj
        exact d1 z (.tail _ hz) g
      · rename_i hne
        have hj' : j < ms.length := (List.getElem?_eq_some_iff.1 hj).1
        have := d2 z hz g
        rcases this with h1 | h1
        · exact .inl (U_none.1 h1 y (hin j hj' (Ne.symm hne) y hj))
        · exact .inr h1
  · intro y hy
    rcases List.mem_append.1 hy with hy | hy
    · rcases List.mem_iff_getElem?.1 hy with ⟨j, hj⟩
      rw [List.getElem?_set] at hj
      split at hj
      · cases hj; exact hs'.mem (.head _)
      · rename_i hne
        have hj' : j < ms.length := (List.getElem?_eq_some_iff.1 hj).1
        exact hF y (hin j hj' (Ne.symm hne) y hj)
    · exact hs'.mem (.tail _ (.tail _ hy))
  · intro y hy
    rcases List.mem_append.1 hy with hy | hy
    · rcases List.mem_iff_getElem?.1 hy with ⟨j, hj⟩
      rw [List.getElem?_set] at hj
      split at hj
      · cases hj; exact hs'.kd _ (.head _)
      · rename_i hne
        exact hs.kd y (List.mem_of_getElem? hj)
    · exact hs'.kd _ (.tail _ (.tail _ hy))

/-- a function that turns some heaps: those that stand first -/
theorem Ct.useA (A B : List Hp) {f vs} {X : Type} {val : X → Value} {φ : X → Prop} {A' new : X → List Hp}
    (h : ∀ F, (∀ m ∈ B, Le m F) → Ct P f vs (A ++ [F]) val φ (fun x => A' x ++ F :: new x)) : Ct P f vs (A ++ B) val φ (fun x => A' x ++ B ++ new x) := fun w0 w hs => by
  have hp := Djs_iff.1 hs.dj
  rw [List.pairwise_append] at hp
  have hdB : Djs B := Djs_iff.2 hp.2.1
  have hs2 : St w0 (A ++ [U B]) w := hs.intro_of (by
    rw [Djs_iff, List.pairwise_append]
    refine ⟨hp.1, by simp, fun a ha b hb => ?_⟩
    simp only [List.mem_singleton] at hb
    subst hb
    exact Dj.U_right.2 (hp.2.2 a ha)) (fun m hm => by
    rcases List.mem_append.1 hm with hm | hm
    · exact hs.mem (List.mem_append_left _ hm)
    · simp only [List.mem_singleton] at hm
      subst hm
      intro g o ho
      obtain ⟨m', hm', hg⟩ := U_some ho
      exact hs.mem (List.mem_append_right _ hm') g o hg) (fun m hm => by
    rcases List.mem_append.1 hm with hm | hm
    · exact hs.kd _ (List.mem_append_left _ hm)
    · simp only [List.mem_singleton] at hm
      subst hm
      exact Dj.U_right.2 fun y hy => hs.kd y (List.mem_append_right _ hy))
  refine (h _ (fun x hx => le_U hdB hx) w0 w hs2).mono fun e w' ⟨x, he, hx, hs'⟩ => ⟨x, he, hx, ?_⟩
  have hq := Djs_iff.1 hs'.dj
  rw [List.pairwise_append, List.pairwise_cons] at hq
  refine hs'.intro_of ?_ ?_ ?_
  · change Djs (A' x ++ B ++ new x)
    rw [Djs_iff, List.append_assoc, List.pairwise_append, List.pairwise_append]
    refine ⟨hq.1, ⟨hp.2.1, hq.2.1.2, fun b hb z hz g => ?_⟩, fun a ha z hz => ?_⟩
    · rcases hq.2.1.1 z hz g with h1 | h1
      · exact .inl (U_none.1 h1 b hb)
      · exact .inr h1
    · rcases List.mem_append.1 hz with hz | hz
      · exact Dj.U_right.1 (hq.2.2 a ha _ (.head _)) z hz
      · exact hq.2.2 a ha z (.tail _ hz)
  · intro m hm
    rcases List.mem_append.1 hm with hm | hm
    · rcases List.mem_append.1 hm with hm | hm
      · exact hs'.mem (List.mem_append_left _ hm)
      · exact (le_U hdB hm).trans (hs'.mem (List.mem_append_right _ (.head _)))
    · exact hs'.mem (List.mem_append_right _ (.tail _ hm))
  · intro m hm
    rcases List.mem_append.1 hm with hm | hm
    · rcases List.mem_append.1 hm with hm | hm
      · exact hs'.kd _ (List.mem_append_left _ hm)
      · exact hs.kd _ (List.mem_append_right _ hm)
    · exact hs'.kd _ (List.mem_append_right _ (.tail _ hm))

/-! ## A function's beginning and end -/
def argsEnv : Nat → List Value → Env
  | _, [] => []
  | k, v :: r => (k, v) :: argsEnv (k + 1) r

theorem look_argsEnv : ∀ (vs : List Value) (k t : Nat) (v : Value), look (argsEnv k vs) t = some v → k ≤ t ∧ vs[t - k]? = some v
  | [], k, t, v, h => by simp [argsEnv, look] at h
  | u :: r, k, t, v, h => by
    unfold argsEnv look at h
    by_cases e : k = t
    · subst e
      simp at h
      subst h
      simp
    · rw [beq_ne e] at h
      have := look_argsEnv r (k + 1) t v (by simpa using h)
      refine ⟨by omega, ?_⟩
      rw [show t - k = (t - (k + 1)) + 1 by omega, List.getElem?_cons_succ]
      exact this.2

/-- how a function's contract is shown: its body is walked -/
theorem Ct.walk {f fn c n vs} {X : Type} {val : X → Value} {φ : X → Prop} {ms' : X → List Hp} (hf : P.funcs[f]? = some fn) (hb : fn.body = some c) (hn : fn.ntmps = n) (hl : Nat.ble vs.length n = true)
    (h : ∀ w0 : Wd, w0.own = [] → J n (argsEnv 0 vs) w0 ms (c.wp P (bodyPostM Fence.wide 0 P fn fun e w' => ∃ x, e = .returned (val x) ∧ φ x ∧ St w0 (ms' x) w'))) : Ct P f vs ms val φ ms' := fun w0 w hs => by
  have hl' : vs.length ≤ n := by simpa [Nat.ble_eq] using hl
  have hs1 : St { w0 with own := [] } ms w := ⟨hs.os, hs.out, hs.tape, hs.size, hs.dj, hs.le, hs.kd, hs.kl⟩
  refine (callsIn_wide (n := 0)).1 ((callsIn_of_wp_marks hf hb trivial (wpIn_wide.2 (h { w0 with own := [] } rfl _ w ⟨rfl, ?_, fun t v ht => ?_⟩ hs1))).mono ?_)
  · simp [hn]; omega
  · obtain ⟨_, h2⟩ := look_argsEnv vs 0 t v ht
    simp only [Nat.sub_zero] at h2
    have hlt := (List.getElem?_eq_some_iff.1 h2).1
    simp only [hn]
    rw [Array.getElem?_append_left (by simpa using hlt)]
    simpa using h2
  · rintro e w' ⟨x, he, hx, hs'⟩
    exact ⟨x, he, hx, hs'.os, hs'.out, hs'.tape, hs'.size, hs'.dj, hs'.le, hs'.kd, hs'.kl⟩

section
variable {n : Nat} {w0 : Wd} {Q : Exit → Act → World → Prop} {fn : Func}

/-- behind the return: 'Q .ret' is the body's post -/
theorem J.done (hw : w0.own = []) {R : Ending → World → Prop} {φ : Act → World → Prop} (hQ : ∀ a w, bodyPostM Fence.wide 0 P fn R .ret a w → φ a w) {v : Value} (hr : ∀ a w, Kn n env a → St w0 ms w → (results fn a.tmps).run P w = .ok v w) (h : ∀ w, St w0 ms w → R (.returned v) w) : J n env w0 ms φ :=
  fun a w hk hs => hQ a w (by
    have hd : a.defers = [] := by rw [hk.1, Wd.ds, hw]; rfl
    show LeavesInM _ _ _ _ _ _ a.defers _ _
    rw [hd]
    exact ⟨v, hr a w hk.2 hs, h w hs⟩)

theorem res1 {t v} (h : fn.results = #[.tmp t]) (hv : look env t = some v) : ∀ a w, Kn n env a → St w0 ms w → (results fn a.tmps).run P w = .ok v w := fun a w hk _ => by
  have := hk.look hv
  rw [results_tmp h, Array.getD_eq_getD_getElem?, this]; rfl
theorem res2 {t u v v'} (h : fn.results = #[.tmp t, .tmp u]) (hv : look env t = some v) (hv' : look env u = some v') : ∀ a w, Kn n env a → St w0 ms w → (results fn a.tmps).run P w = .ok (.tuple #[v, v']) w := fun a w hk _ => by
  have h1 := hk.look hv
  have h2 := hk.look hv'
  rw [results_tmp2 h, Array.getD_eq_getD_getElem?, h1, Array.getD_eq_getD_getElem?, h2]; rfl
theorem res0 (h : fn.results = #[]) : ∀ a w, Kn n env a → St w0 ms w → (results fn a.tmps).run P w = .ok (.tuple #[]) w := fun _ _ _ _ => results_none h _ _ _

theorem retOk {X : Type} {val : X → Value} {φ : X → Prop} {ms' : X → List Hp} {v : Value} (x : X) (hv : v = val x) (hx : φ x) (ix : List Nat) (hm : pick ms ix = ms' x) (hn : ix.Nodup) :
    ∀ w, St w0 ms w → ∃ x, Ending.returned v = .returned (val x) ∧ φ x ∧ St w0 (ms' x) w := fun _ hs => ⟨x, by rw [hv], hx, hm ▸ hs.pick ix hn⟩
end
end
end Go.Fw
