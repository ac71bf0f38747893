/- Rules for walking a translated function, over heaps that are apart: for any program. -/
import Derived.Test.YtnkfapecbmmpeaaDoorTopSiG14
import Derived.Below
set_option linter.unusedSimpArgs false
set_option linter.unusedVariables false
namespace Go.Fw
open Go Go.RowKit
/-! ## Small things: int32, structs in arrays, contracts of the kit's own kind -/
abbrev R32 (n : Nat) : Value := .int .i32 (n : Int)
section
variable {P : Program} {env : Env} {rs ms : List Hp} {o : Oper}
/-- a contract of the kit's kind: it gives a value, and what it lays is new -/
theorem St.below {w0 : Wd} {F : Hp} {w w' : World} (h : St w0 [F] w) (hb : Below w.heap.size w w') : St w0 [F] w' := by
  have hk : ∀ m : Hp, Le m (hp w) → Le m (hp w') := fun m hm g o ho => by
    have h1 := hm g o ho
    show w'.heap[g]? = some o
    rw [hb.block g (hp_lt h1)]; exact h1
  exact ⟨hb.os.trans h.os, hb.output.trans h.out, hb.tape.trans h.tape, Nat.le_trans h.size hb.size, h.dj, hk _ h.le, h.kd, hk _ h.kl⟩
/-- and back: of all that lies -/
theorem Ct.below {f : FuncId} {vs : List Value} {v : Value} {w : World} (h : Ct P f vs [hp w] (fun _ : Unit => v) (fun _ => True) (fun _ => [hp w])) :
    Calls P f vs.toArray w fun e w' => e = .returned v ∧ Below w.heap.size w w' := by
  have hs : St ⟨w, fun _ => none, []⟩ [hp w] w := ⟨rfl, rfl, rfl, Nat.le_refl _, ⟨fun g => .inr rfl, trivial⟩, fun g o ho => by simp only [U] at ho; cases hg : hp w g with | none => rw [hg] at ho; cases ho | some x => rw [hg] at ho; exact ho, fun m _ g => .inl rfl, fun g o ho => by cases ho⟩
  refine (h _ w hs).mono fun e w' ⟨_, he, _, hs'⟩ => ⟨he, hs'.os, hs'.tape, hs'.out, hs'.size, fun k hk => ?_⟩
  have := hs'.mem (.head _) k _ (Array.getElem?_eq_getElem hk)
  exact this.trans (Array.getElem?_eq_getElem hk).symm
end
theorem strsV_snoc (l : List (List UInt8)) (s : List UInt8) : strsV (l ++ [s]) = strsV l ++ [[Str s]] := by simp [strsV]
theorem natsV_snoc (l : List Nat) (s : Nat) : natsV (l ++ [s]) = natsV l ++ [[I (s : Int)]] := by simp [natsV]
theorem strsV_set (l : List (List UInt8)) (k : Nat) (s : List UInt8) : (strsV l).set k [Str s] = strsV (l.set k s) := by simp [strsV, List.map_set]
theorem bytesV_len (l : List UInt8) : (bytesV l).length = l.length := by simp [bytesV]
theorem strsV_len (l : List (List UInt8)) : (strsV l).length = l.length := by simp [strsV]
/-- both ways of a test, a Bool -/
theorem J.splitB {n : Nat} {env : Env} {w0 : Wd} {ms : List Hp} {φ : Act → World → Prop} {d : Nat} {b : Bool} (hl : look env d = some (.bool b)) (ht : b = true → J n ((d, .bool true) :: env) w0 ms φ) (hf : b = false → J n ((d, .bool false) :: env) w0 ms φ) : J n env w0 ms φ := by
  cases hb : b with
  | true => exact J.bool hl hb (ht hb)
  | false => exact J.bool hl hb (hf hb)
theorem J.dnoE {P : Program} {ops : Array Oper} {Q : Exit → Act → World → Prop} {n : Nat} {env : Env} {w0 : Wd} {ms : List Hp} {rs : List Hp} {tl : List Nat} {i : Nat} {σ : Sg} {o : Oper} {d : Nat} (ho : ops[i]? = some o) (hg : Wan ops env o false) (hd : o.dst = some d) (hn : Nat.blt d n = true) (hsub : ∀ m ∈ rs, m ∈ ms)
    (k : J n ((d, undef) :: env) w0 ms (wpD P ops Q (fun w => ∀ m ∈ rs, Le m (hp w)) tl σ)) : J n env w0 ms (wpD P ops Q (fun w => ∀ m ∈ rs, Le m (hp w)) tl (.e i σ)) := fun a w hk hs => by
  unfold wpD wpOp
  simp only [ho]
  rw [if_neg (by rw [hg n a hk.2]; simp), hd]
  exact ⟨fun v => ∀ m ∈ rs, Le m (hp v), fun v hv => hv, fun _ m hm => hs.mem (hsub m hm), k _ w (hk.put hn undef) hs⟩
end Go.Fw
