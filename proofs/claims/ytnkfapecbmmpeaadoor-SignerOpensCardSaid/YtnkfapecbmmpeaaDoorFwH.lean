/- Rules for walking a translated function, over heaps that are apart: for any program. -/
import Derived.Test.YtnkfapecbmmpeaaDoorFwG
import Derived.Lib.Builder
import Derived.Lib.UnsafeStr
import Derived.Lib.MakeNoZero
set_option linter.unusedSimpArgs false
set_option linter.unusedVariables false
namespace Go.Fw
open Go
section
variable {P : Program} {env : Env} {rs ms : List Hp} {o : Oper}

theorem op_indexAddrS {t e x y k i sz g off n' c j} (ho : o.op = .indexAddr t x y) (hx : ev env x = some (.slice (some ⟨g, off, none⟩) n' c)) (hy : ev env y = some (.int k ((i : Nat) : Int))) (hu : P.underlying t = some (.slice e))
    (hz : ∀ w, (sizeOf e).run P w = .ok sz w) (hi : i < n') (hj : off + i * sz = j) : YOp P env rs o (.pointer (some ⟨g, j, none⟩)) := fun n a w hk _ => by
  subst hj
  simp [execOp, ho, hk.ev hx, hk.ev hy, Instr.indexAt, asIntOf, run_underlying hu, hz, hi, Addr.add_lit]
/-- 's[:h]' -/
theorem op_sliceTo {t e x q sz A n' c h} (ho : o.op = .slice t x none (some q) none) (hx : ev env x = some (.slice A n' c)) (hu : P.underlying t = some (.slice e)) (hz : ∀ w, (sizeOf e).run P w = .ok sz w)
    (hhi : ev env q = some (I ((h : Nat) : Int))) (hr : h ≤ c) : YOp P env rs o (.slice A h c) :=
  (op_slice (lo := none) (hi := some q) (l := 0) (h := h) ho hx hu hz rfl hhi ⟨Nat.zero_le _, hr⟩).as (by
    simp only [Nat.sub_zero, Nat.zero_mul]
    by_cases hc : c = 0
    · rw [if_pos hc]
    · rw [if_neg hc]; cases A <;> simp [add_zero'])
theorem op_cap {t e x A n' c} (ht : P.underlying t = some (.slice e)) (ho : o.op = .call { callee := .builtin .cap, args := #[x], argTypes := #[t] }) (hx : ev env x = some (.slice A n' c)) : YOp P env rs o (I c) := fun n a w hk _ => by
  simp [execOp, ho, hk.ev hx, resolve, invoke, builtin, Builtin.cap_, run_underlying ht, goInt]
/-! ### what strings.Builder does -/
theorem shape_of {w : World} {g : Nat} {cs : Array Value} {e : TypeId} {fz : Nat × Nat} (h : w.heap[g]? = some (.cells cs e fz)) : w.shape? g = some (e, cs.size) := by simp [World.shape?, h]
theorem op_pneSame {tp te t' x y ad j} (hp : P.underlying tp = some (.pointer te)) (hte : P.info? te = some j) (ho : o.op = .binOp .neq tp x y t') (hx : ev env x = some (.pointer (some ad))) (hy : ev env y = some (.pointer (some ad))) : YOp P env rs o (.bool false) := fun n a w hk _ => by
  simp only [execOp, ho, hk.ev hx, hk.ev hy]
  have := Lib.run_neq_ptr_same (P := P) w ad hp hte
  simp [eqGuard, this]
theorem op_toUnsafe {src dst t x g off m cs e fz} {j : TypeInfo} (ho : o.op = .convert src dst x) (hx : ev env x = some (.pointer (some ⟨g, off, none⟩))) (hs : P.underlying src = some (.pointer t)) (hd : P.underlying dst = some .unsafePointer)
    (ht : P.info? t = some j) (hj : j.size ≠ 0) (hm : m ∈ rs) (hb : m g = some (.cells cs e fz)) (hoff : off < cs.size) : YOp P env rs o (.pointer (some ⟨g, off, none⟩)) := fun n a w hk hr => by
  have hh : w.heap[g]? = some (.cells cs e fz) := hr m hm g _ hb
  have := Lib.run_to_unsafe (P := P) w ⟨g, off, none⟩ hs hd ht hj (shape_of hh) hoff
  simp only [execOp, ho, hk.ev hx]
  rw [Sem.run_bind, this]; rfl
theorem op_fromUnsafe {src dst u x g off m cs e fz} {j : TypeInfo} (ho : o.op = .convert src dst x) (hx : ev env x = some (.pointer (some ⟨g, off, none⟩))) (hs : P.underlying src = some .unsafePointer) (hd : P.underlying dst = some (.pointer u))
    (hu : P.info? u = some j) (hm : m ∈ rs) (hb : m g = some (.cells cs e fz)) (hl : liesAt P P.depth e (cs.size / P.cellsOf e) off u 1 = true) : YOp P env rs o (.pointer (some ⟨g, off, none⟩)) := fun n a w hk hr => by
  have hh : w.heap[g]? = some (.cells cs e fz) := hr m hm g _ hb
  have := Lib.run_from_unsafe (P := P) w ⟨g, off, none⟩ hs hd hu (shape_of hh) hl
  simp only [execOp, ho, hk.ev hx]
  rw [Sem.run_bind, this]; rfl
/-- a function that the model gives itself, and that hands its argument back -/
theorem op_same {f x v tys} (ho : o.op = .call { callee := .value (.func f), args := #[x], argTypes := tys }) (hx : ev env x = some v) (hf : ∀ v w, (callFunc f #[v]).run P w = .ok (.value v) w) : EOp P env ms o (fun _ : Unit => v) (fun _ => True) (fun _ => ms) := .ofRun fun n a w0 w hk hs => by
  refine ⟨(), w, ?_, trivial, hs⟩
  have h2 : resolve a.eval { callee := .value (.func f), args := #[x], argTypes := tys } o.type = (pure { target := .fn (.func f) #[], args := #[v] } : Sem Deferred) := by
    have h3 := hk.ev hx
    unfold resolve
    simp only [List.map_toArray, List.map_cons, List.map_nil, h3]
    simp [Act.eval, Deferred.ofValue]
  simp only [execOp, ho, h2]
  rw [Sem.run_bind, Sem.run_pure, Result.andThen_ok]
  simp [invoke, hf]
theorem op_sliceData {t x A n' c} (ho : o.op = .call { callee := .builtin .unsafeSliceData, args := #[x], argTypes := #[t] }) (hx : ev env x = some (.slice A n' c)) (hc : A = none ∨ 0 < c) : YOp P env rs o (.pointer A) := fun n a w hk _ => by
  have h : (Builtin.unsafeSliceData_ #[t] o.type #[.slice A n' c]).run P w = .ok (.pointer A) w := by
    cases A with
    | none => exact Lib.run_unsafeSliceData_nil w _ _ _ _
    | some ad => exact Lib.run_unsafeSliceData_row w _ _ _ _ _ (by rcases hc with h | h; cases h; omega)
  simp [execOp, ho, hk.ev hx, resolve, invoke, builtin, h]

theorem hp_freeze {w : World} {g : Nat} {cs : Array Value} {e : TypeId} {lo hi k : Nat} (h : w.heap[g]? = some (.cells cs e (lo, hi))) (hk : k ≠ 0) :
    hp (w.freeze ⟨g, 0, none⟩ k) = put1 (hp w) g (.cells cs e (if lo == hi then (0, 0 + k) else (min lo 0, max hi (0 + k)))) := by
  funext j
  simp only [hp, World.freeze, if_neg hk, put1, Array.getElem?_modify]
  by_cases ek : j = g
  · subst ek; simp [h]
  · rw [if_neg (Ne.symm ek), if_neg ek]

/-- 'unsafe.String(p, n)' over a row of bytes: the text; the row's bytes are frozen -/
theorem op_unsafeString {pt it e x y A c i m} {l : List UInt8} {n' : Nat} (ho : o.op = .call { callee := .builtin .unsafeString, args := #[x, y], argTypes := #[pt, it] }) (hx : ev env x = some (.pointer A)) (hy : ev env y = some (I n'))
    (hpt : P.underlying pt = some (.pointer e)) (hc : P.cellsOf e = 1) (hi : ms[i]? = some m) (hr : RowQ False m e 1 A n' c (bytesV l)) (h63 : n' ≤ 9223372036854775807) :
    EOp P env ms o (fun _ : Hp => Str l) (fun m' => RowQ False m' e 1 A n' c (bytesV l)) (fun m' => ms.set i m') := .ofRun fun n a w0 w hk hs => by
  have hn : l.length = n' := by have := hr.1; simpa [bytesV] using this
  subst hn
  by_cases h0 : l = []
  · subst h0
    have h1 : (Builtin.unsafeString_ #[pt, it] o.type #[.pointer A, .int .i64 0]).run P w = _ := Lib.run_unsafeString_none w pt it o.type A
    refine ⟨m, w, ?_, hr, ?_⟩
    · simp [execOp, ho, hk.ev hx, hk.ev hy, resolve, invoke, builtin, h1]
      rfl
    · have hself : ms.set i m = ms := by
        apply List.ext_getElem?
        intro j
        rw [List.getElem?_set]
        split
        · rename_i e; subst e; rw [if_pos (List.getElem?_eq_some_iff.1 hi).1, hi]
        · rfl
      rw [hself]; exact hs
  · have hl0 : 0 < l.length := List.length_pos_iff.2 h0
    obtain ⟨_, hz, hnc, hcase⟩ := hr
    rcases hcase with ⟨_, hc0, _⟩ | ⟨g, rest, lo, hi', hA, hm, hlen, hf⟩
    · omega
    · subst hA
      have hg : w.heap[g]? = some (.cells ((bytesV l).flatten ++ rest).toArray e (lo, hi')) := hs.mem (List.mem_of_getElem? hi) g _ (by rw [hm]; exact single_self _ _)
      have hfl : (bytesV l).flatten = l.map B8 := by unfold bytesV; exact flatten_sing _ _
      have hrun := Lib.run_unsafeString_row (P := P) w pt it o.type e hpt hc g _ (shape_of hg) l h0 (by rw [List.size_toArray, hlen]; omega) h63 (fun j x hj => by
        rw [Addr.add_lit]
        simp only [World.cell?, hg, Nat.zero_add]
        have hjl : j < l.length := (List.getElem?_eq_some_iff.1 hj).1
        simp only [Option.isSome_none, Bool.false_eq_true, if_false, List.getElem?_toArray]
        rw [hfl, List.getElem?_append_left (by simpa using hjl), List.getElem?_map, hj]
        rfl)
      have hset := hs.set hi (g := g) (by rw [hm]; exact single_self _ _) (w' := w.freeze ⟨g, 0, none⟩ l.length) (by unfold World.freeze; split <;> rfl) (by unfold World.freeze; split <;> rfl) (by unfold World.freeze; split <;> rfl) (by unfold World.freeze; split <;> simp) (hp_freeze hg (by omega))
      rw [hm, put1_single] at hset
      have hfz : (if (lo == hi') = true then ((0 : Nat), 0 + l.length) else (min lo 0, max hi' (0 + l.length))) = (0, if lo = hi' then l.length else max hi' l.length) := by
        by_cases hlh : lo = hi' <;> simp [hlh]
      rw [hfz] at hset
      refine ⟨_, _, ?_, ⟨by simp [bytesV], hz, hnc, .inr ⟨g, rest, _, _, rfl, rfl, hlen, .inr (.inr ⟨id, ?_⟩)⟩⟩, hset⟩
      · simp [execOp, ho, hk.ev hx, hk.ev hy, resolve, invoke, builtin, hrun]
      · split
        · omega
        · rcases hf with h | h | h
          · omega
          · exact h.1.elim
          · omega

/-- 'append(b, s...)', s a text -/
theorem op_appendS {q : Prop} {t u e x y A n c xs z by' i m} {l : List UInt8} (ho : o.op = .call { callee := .builtin .append, args := #[x, y], argTypes := #[t, u] }) (hx : ev env x = some (.slice A n c)) (hy : ev env y = some (Str l))
    (hu : P.underlying t = some (.slice e)) (hu2 : P.underlying u = some .string) (he : Elem P e [z] by') (hi : ms[i]? = some m) (hr : RowQ q m e 1 A n c xs)
    (hb : (n + l.length) * by' ≤ 140737488355328) (h63 : n + l.length ≤ 9223372036854775807) :
    EOp P env ms o (fun x : Option Addr × Nat × Hp => .slice x.1 (n + l.length) x.2.1) (fun x => RowQ q x.2.2 e 1 x.1 (n + l.length) x.2.1 (xs ++ bytesV l) ∧ (A = none ∨ 0 < c → x.1 = none ∨ 0 < x.2.1)) (fun x => ms.set i x.2.2) := .ofRun fun nn a w0 w hk hs => by
  have hyz : ∀ y ∈ bytesV l, y.length = ([z] : List Value).length := fun y hy' => by
    simp only [bytesV, List.mem_map] at hy'
    obtain ⟨b, _, rfl⟩ := hy'
    rfl
  have hfl : (bytesV l).flatten = l.map B8 := by unfold bytesV; exact flatten_sing _ _
  have hcells : ∀ w', w'.heap = w.heap → (Builtin.firstCells ([z] : List Value).length l.length (Str l)).run P w' = .ok (bytesV l).flatten.toArray w' := fun w' _ => by
    have h1 : ((ByteArray.mk l.toArray).extract 0 l.length) = ByteArray.mk l.toArray := by
      ext1
      rw [ByteArray.data_extract]
      simp
    simp only [Builtin.firstCells, h1, hfl]
    simp [Sem.run_pure]
  obtain ⟨A', c', m', w', hrun, hrow, hst, _⟩ := run_append (P := P) (t := t) (u := u) (ty := o.type) hu he hu2 (.inr rfl) hs hi hr (x := Str l) (k := l.length) (ys := bytesV l) (fun _ => by simp [Builtin.lenOf, size_mk]) hcells (by simp [bytesV]) hyz (by simp [bytesV, Value.oneCell']) hb h63
  refine ⟨(A', c', m'), w', by simp [execOp, ho, hk.ev hx, hk.ev hy, resolve, invoke, builtin, hrun], ⟨hrow, fun hc => ?_⟩, hst⟩
  by_cases h0 : 0 < n + l.length
  · exact .inr (Nat.lt_of_lt_of_le h0 hrow.2.2.1)
  · have hn0 : n = 0 := by omega
    have hl0 : l.length = 0 := by omega
    have hl : l = [] := List.eq_nil_of_length_eq_zero hl0
    subst hl hn0
    have : (Builtin.append_ #[t, u] o.type #[.slice A 0 c, Str []]).run P w = .ok (.slice A 0 c) w := by
      obtain ⟨ii, zv, hii, hi1, _, _, _⟩ := he.row
      have hc0 := hcells w rfl
      simp only [List.length_nil] at hc0
      cases A <;> simp [Builtin.append_, run_underlying hu, run_underlying hu2, sizeOf, typeInfo, hii, Builtin.lenOf, size_mk, Builtin.firstCells, storeCells]
    rw [List.length_nil, Nat.add_zero] at hrun
    rw [this] at hrun
    cases hrun
    exact hc

/-- 'copy(b, c)', c of no element -/
theorem op_copy0 {t u e x y A c B c2 z by'} (ho : o.op = .call { callee := .builtin .copy, args := #[x, y], argTypes := #[t, u] }) (hx : ev env x = some (.slice A 0 c)) (hy : ev env y = some (.slice B 0 c2))
    (hu : P.underlying t = some (.slice e)) (he : Elem P e z by') : EOp P env ms o (fun _ : Unit => I 0) (fun _ => True) (fun _ => ms) := .ofRun fun n a w0 w hk hs => by
  obtain ⟨ii, zv, hii, hi1, _, _, _⟩ := he.row
  refine ⟨(), w, ?_, trivial, hs⟩
  cases A <;> cases B <;> simp [execOp, ho, hk.ev hx, hk.ev hy, resolve, invoke, builtin, Builtin.copy_, run_underlying hu, Builtin.lenOf, sizeOf, typeInfo, hii, Builtin.firstCells, loadCells, loadCellsFrom, storeCells, goInt]

/-- internal/bytealg.MakeNoZero -/
theorem op_mnz {f x tys t e} {ps : Array TypeId} {n' : Nat} (ho : o.op = .call { callee := .value (.func f), args := #[x], argTypes := tys }) (hx : ev env x = some (I n'))
    (hf : ∀ v w, (callFunc f #[v]).run P w = (do let x ← Extern.BytealgMakeNoZero.makeNoZero ps #[t] #[v]; pure (.value x) : Sem Next).run P w) (hu : P.underlying t = some (.slice e)) (hn : n' ≤ 281474976710656) :
    EOp P env ms o (fun x : Nat × Nat × List Value => .slice (some ⟨x.1, 0, none⟩) n' x.2.1) (fun x => n' ≤ x.2.1 ∧ x.2.2.length = x.2.1) (fun x => ms ++ [blk x.1 x.2.2 e]) := .ofRun fun n a w0 w hk hs => by
  obtain ⟨cs, h2, hge, _⟩ := Lib.run_makeNoZero (P := P) w ps t e hu n' hn
  have h3 : (resolve a.eval { callee := .value (.func f), args := #[x], argTypes := tys } o.type) = (pure { target := .fn (.func f) #[], args := #[I n'] } : Sem Deferred) := by
    have h3 := hk.ev hx
    unfold resolve
    simp only [List.map_toArray, List.map_cons, List.map_nil, h3]
    simp [Act.eval, Deferred.ofValue]
  refine ⟨(w.heap.size, cs.size, cs.toList), w.drew.drew.alloc (.cells cs e), ?_, ⟨hge, by simp⟩, hs.drewS.drewS.alloc _⟩
  simp only [execOp, ho, h3]
  rw [Sem.run_bind, Sem.run_pure, Result.andThen_ok]
  simp only [invoke, Array.append_empty]
  rw [hf, Sem.run_bind, h2]
  rfl

theorem St.empty {w0 w} (h : St w0 ms w) : St w0 (ms ++ [fun _ => none]) w := by
  refine h.intro_of ?_ ?_ ?_
  · rw [Djs_iff, List.pairwise_append]
    refine ⟨Djs_iff.1 h.dj, by simp, fun a _ b hb g => ?_⟩
    simp only [List.mem_singleton] at hb
    subst hb
    exact .inr rfl
  · intro m hm
    rcases List.mem_append.1 hm with hm | hm
    · exact h.mem hm
    · simp only [List.mem_singleton] at hm
      subst hm
      intro g o ho
      cases ho
  · intro m hm
    rcases List.mem_append.1 hm with hm | hm
    · exact h.kd m hm
    · simp only [List.mem_singleton] at hm
      subst hm
      exact fun g => .inr rfl
/-- an empty heap besides, and an order -/
theorem J.addEmpty {n : Nat} {w0 : Wd} {φ : Act → World → Prop} (ix : List Nat) (ms' : List Hp) (hm : pick (ms ++ [fun _ => none]) ix = ms') (hn : ix.Nodup) (h : J n env w0 ms' φ) : J n env w0 ms φ :=
  fun a w hk hs => h a w hk (hm ▸ hs.empty.pick ix hn)
theorem J.perm {n : Nat} {w0 : Wd} {φ : Act → World → Prop} (ix : List Nat) (ms' : List Hp) (hm : pick ms ix = ms') (hn : ix.Nodup) (h : J n env w0 ms' φ) : J n env w0 ms φ :=
  fun a w hk hs => h a w hk (hm ▸ hs.pick ix hn)
theorem Ct.from {f vs} {X : Type} {val : X → Value} {φ : X → Prop} {ms2 : List Hp} {ms' : X → List Hp} (ix : List Nat) (hm : pick ms ix = ms2) (hn : ix.Nodup) (h : Ct P f vs ms2 val φ ms') : Ct P f vs ms val φ ms' := fun w0 w hs => h w0 w (hm ▸ hs.pick ix hn)
theorem strsV_get {ls : List (List UInt8)} {k : Nat} {s : List UInt8} (h : ls[k]? = some s) : (strsV ls)[k]? = some [Str s] := by simp [strsV, h]
theorem bytesV_get {l : List UInt8} {k : Nat} {b : UInt8} (h : l[k]? = some b) : (bytesV l)[k]? = some [B8 b] := by simp [bytesV, h]
end
end Go.Fw
