/- Rules for walking a translated function, over heaps that are apart: for any program. -/
import Derived.Test.YtnkfapecbmmpeaaDoorFwH
set_option linter.unusedSimpArgs false
set_option linter.unusedVariables false
namespace Go.Fw
open Go
section
variable {P : Program} {env : Env} {rs ms : List Hp} {o : Oper}

/-! ## Results that lie in memory -/
def RV (P : Program) (env : Env) (ms : List Hp) : ResultVar → Value → Prop
  | .tmp t, v => look env t = some v
  | .cell a t, v => ∃ ad m vs, look env a = some (.pointer (some ad)) ∧ m ∈ ms ∧ Cells m ad vs ∧
      (((∀ w, (isAgg t).run P w = .ok true w) ∧ (∀ w, (sizeOf t).run P w = .ok vs.length w) ∧ v = .agg vs.toArray) ∨ ((∀ w, (isAgg t).run P w = .ok false w) ∧ vs = [v]))

theorem RV.blkA (i : Nat) {a t g l e} (h : look env a = some (Ptr g)) (hi : ms[i]? = some (blk g l e)) (hg : ∀ w, (isAgg t).run P w = .ok true w) (hz : ∀ w, (sizeOf t).run P w = .ok l.length w) : RV P env ms (.cell a t) (.agg l.toArray) :=
  ⟨_, _, l, h, List.mem_of_getElem? hi, Cells.blk0, .inl ⟨hg, hz, rfl⟩⟩
theorem RV.blk1 (i : Nat) {a t g v e} (h : look env a = some (Ptr g)) (hi : ms[i]? = some (blk g [v] e)) (hg : ∀ w, (isAgg t).run P w = .ok false w) : RV P env ms (.cell a t) v :=
  ⟨_, _, [v], h, List.mem_of_getElem? hi, Cells.blk0, .inr ⟨hg, rfl⟩⟩

theorem RV.run {n a w0 w r v} (hk : Kn n env a) (hs : St w0 ms w) (h : RV P env ms r v) :
    (match r with
    | .tmp t => (pure (a.tmps.getD t undef) : Sem Value)
    | .cell x t => do loadVar t (← asAddr (a.tmps.getD x undef))).run P w = .ok v w := by
  cases r with
  | tmp t =>
    have := hk.look h
    simp [Array.getD_eq_getD_getElem?, this]
  | cell x t =>
    obtain ⟨ad, m, vs, h1, hm, hc, h2⟩ := h
    have h3 := hk.look h1
    have h4 : a.tmps.getD x undef = .pointer (some ad) := by rw [Array.getD_eq_getD_getElem?, h3]; rfl
    have hcw := hc.mono (hs.mem hm)
    rcases h2 with ⟨hg, hz, rfl⟩ | ⟨hg, rfl⟩
    · have := run_loadCells_list (P := P) w ad vs (fun j u hj => hcw.cell hj)
      simp only [h4]
      simp [asAddr, loadVar, hg, hz, this]
    · have := hcw.cell (j := 0) rfl
      rw [add_zero'] at this
      simp only [h4]
      simp [asAddr, loadVar, hg, this]

theorem rv1 {fn : Func} {n w0 r v} (h : fn.results = #[r]) (h1 : RV P env ms r v) : ∀ a w, Kn n env a → St w0 ms w → (results fn a.tmps).run P w = .ok v w := fun a w hk hs => by
  have e := RV.run hk hs h1
  unfold results
  rw [h]
  cases r <;> (simp at e; simp [e])
theorem rv2 {fn : Func} {n w0 r r' v v'} (h : fn.results = #[r, r']) (h1 : RV P env ms r v) (h2 : RV P env ms r' v') : ∀ a w, Kn n env a → St w0 ms w → (results fn a.tmps).run P w = .ok (.tuple #[v, v']) w := fun a w hk hs => by
  have e := RV.run hk hs h1
  have e' := RV.run hk hs h2
  have hA : ∀ (f : Value → World → Result Value) (x : Tmp) (t : TypeId) (u : Value), (do loadVar t (← asAddr (a.tmps.getD x undef)) : Sem Value).run P w = .ok u w →
      ((Sem.run P (asAddr (a.tmps[x]?.getD undef)) w).andThen fun b w' => (Sem.run P (loadVar t b) w').andThen f) = f u w := fun f x t u hu => by
    have h3 : ((Sem.run P (asAddr (a.tmps[x]?.getD undef)) w).andThen fun b w' => (Sem.run P (loadVar t b) w')) = .ok u w := by simpa using hu
    cases hq : Sem.run P (asAddr (a.tmps[x]?.getD undef)) w with
    | ok b w' => rw [hq] at h3; simp only [Result.andThen_ok] at h3 ⊢; rw [h3]; rfl
    | halt x w' => rw [hq] at h3; cases h3
  unfold results
  rw [h]
  cases r <;> cases r' <;> simp
  · simp at e e'; simp [e, e']
  · simp at e; rw [hA _ _ _ _ e']; simp [e]
  · simp at e'; rw [hA _ _ _ _ e]; simp [e']
  · rw [hA _ _ _ _ e, hA _ _ _ _ e']

/-! ## Aggregates -/
/-- '[..]T{a, b, ..}', whole -/
theorem op_buildArr {t e N z by' zv} {l : List Operand} {vs : List Value} {parts : Array (Nat × Operand)} (ho : o.op = .build t parts) (hp : parts = partsOf l) (hv : evs env l = some vs) (hu : P.underlying t = some (.array N e)) (he : Elem P e z by')
    (hzt : ∀ w, (zeroValue t).run P w = .ok zv w) (hzc : zv.cells.size = N * z.length) (hn : vs.length = N) (hz : ∀ v ∈ vs, v.cells.size = z.length) {r : List Value} (hr : (vs.flatMap fun v => v.cells.toList) = r) :
    YOp P env rs o (.agg r.toArray) := fun n a w hk _ => by
  have hev := hk.evs hv
  have e1 : (parts.map fun (i, x) => (i, a.eval x)).toList = (vs.zipIdx 0).map fun x => (x.2, x.1) := by
    rw [hp]
    simp only [partsOf, List.map_toArray, List.map_map]
    rw [← hev]
    exact map_zipIdx a.eval l 0
  have hf := Great.fill_whole he.pos vs zv.cells (fun v hv' => hz v hv') (by rw [hn, hzc])
  have hrun : (Instr.build t (parts.map fun (i, x) => (i, a.eval x))).run P w = .ok (.agg r.toArray) w := by
    simp only [Instr.build, Sem.run_bind, hzt, Result.andThen_ok, run_underlying hu, he.sizeOf, e1, hf, hr, Sem.run_pure]
  simp only [execOp, ho]
  rw [Sem.run_bind, hrun]; rfl
/-- a struct's literal: what 'fill' yields is reckoned -/
theorem op_buildStruct {t zv} {fs : Array Field} {l : List (Nat × Operand)} {vs : List Value} {parts : Array (Nat × Operand)} {places : List (Nat × Nat)} (ho : o.op = .build t parts) (hp : parts = l.toArray) (hv : evs env (l.map (·.2)) = some vs) (hu : P.underlying t = some (.struct fs))
    (hzt : ∀ w, (zeroValue t).run P w = .ok zv w) (hpl : ∀ w, ((fs.mapM fun f => do pure (f.offset, ← sizeOf f.type) : Sem (Array (Nat × Nat)))).run P w = .ok places.toArray w) {r : List Value}
    (hr : Instr.fill (places[·]?) zv.cells ((l.map (·.1)).zip vs) = some r.toArray) : YOp P env rs o (.agg r.toArray) := fun n a w hk _ => by
  have hev := hk.evs hv
  have e1 : (parts.map fun (i, x) => (i, a.eval x)).toList = (l.map (·.1)).zip vs := by
    rw [hp, ← hev]
    simp only [List.map_toArray, List.map_map]
    clear hv hev hr hp ho
    induction l with
    | nil => rfl
    | cons x l ih => simp at ih ⊢; exact ih
  have e2 : (fun i : Nat => places.toArray[i]?) = (fun i : Nat => places[i]?) := by funext i; simp
  have hrun : (Instr.build t (parts.map fun (i, x) => (i, a.eval x))).run P w = .ok (.agg r.toArray) w := by
    simp only [Instr.build, Sem.run_bind, hzt, Result.andThen_ok, run_underlying hu, hpl, e1, e2, hr, Sem.run_pure]
  simp only [execOp, ho]
  rw [Sem.run_bind, hrun]; rfl

theorem op_indexAddrJ {t e x y k i sz g off N j} (ho : o.op = .indexAddr t x y) (hx : ev env x = some (.pointer (some ⟨g, off, none⟩))) (hy : ev env y = some (.int k ((i : Nat) : Int))) (hu : P.underlying t = some (.array N e))
    (hz : ∀ w, (sizeOf e).run P w = .ok sz w) (hi : i < N) (hj : off + i * sz = j) : YOp P env rs o (.pointer (some ⟨g, j, none⟩)) := by
  subst hj; exact op_indexAddrP ho hx hy hu hz hi
theorem op_loadM (i : Nat) {m t x ad v} (ho : o.op = .load t x) (hx : ev env x = some (.pointer (some ad))) (hg : ∀ w, (isAgg t).run P w = .ok false w) (hi : rs[i]? = some m) (hc : Cells m ad [v]) : YOp P env rs o v :=
  op_load ho hx hg (List.mem_of_getElem? hi) hc
/-- a whole block is stored -/
theorem op_storeAll {t x y g l e v i} (ho : o.op = .store t x y) (hx : ev env x = some (Ptr g)) (hy : ev env y = some v) (hi : ms[i]? = some (blk g l e)) {vs : List Value} (hv : v.cells = vs.toArray)
    (hz : ∀ w, (sizeOf t).run P w = .ok vs.length w) (h1 : vs.all Value.oneCell' = true) (hk : vs.length = l.length) :
    EOp P env ms o (fun _ : Unit => undef) (fun _ => True) (fun _ => ms.set i (blk g vs e)) := by
  have h := op_store (k := 0) (ms := ms) ho hx hy hi hv hz h1 (by omega)
  have e1 : setAt l 0 vs = vs := by unfold setAt; simp [hk]
  rw [e1] at h
  exact h
theorem Wan.un {ops : Array Oper} {env : Env} {o o' : Oper} {j d : Nat} {want : Bool} (h : o.guard = some (j, want)) (hj : ops[j]? = some o') (hd : o'.dst = some d) (hl : look env d = some undef) : Wan ops env o false := fun n a hk => by
  have h2 := hk.look hl
  have : yielded ops a.tmps j = Option.none := by simp [yielded, hj, hd, h2, undef]
  simp [Region.wanted, h, this]
theorem Sl.to {m : Hp} {sz A n c xs} (h : Sl m sz A n c xs) {k : Nat} (hk : k ≤ n) : Sl m sz A k c (xs.take k) := by
  refine ⟨by rw [List.length_take, h.1, Nat.min_eq_left hk], Nat.le_trans hk h.2.1, fun i x hx => ?_⟩
  rw [List.getElem?_take] at hx
  split at hx
  · exact h.2.2 i x hx
  · cases hx
theorem strsV_drop (l : List (List UInt8)) (k : Nat) : (strsV l).drop k = strsV (l.drop k) := by simp [strsV]
/-- 's[lo:]' of texts -/
theorem Sl.strsFrom {m : Hp} {A n c} {l : List (List UInt8)} (h : Sl m 1 A n c (strsV l)) {k : Nat} (hk : k ≤ n) : Sl m 1 (if c = k then A else A.map (·.add (k * 1))) (n - k) (c - k) (strsV (l.drop k)) := by
  have h2 := h.cut (lo := k) (hi := n) (mx := c) hk (Nat.le_refl _) h.2.1
  have e : (strsV l).take n = strsV l := List.take_of_length_le (by rw [h.1]; exact Nat.le_refl _)
  rw [e, strsV_drop] at h2
  exact h2
end
end Go.Fw
