/- Rules for walking a translated function, over heaps that are apart: for any program. -/
import Derived.Test.YtnkfapecbmmpeaaGreatDoorFwZ
import Derived.Below
set_option linter.unusedSimpArgs false
set_option linter.unusedVariables false
namespace Go.Fw
open Go Go.RowKit
/-! ## Small things: int32, structs in arrays, contracts of the kit's own kind -/
abbrev R32 (n : Nat) : Value := .int .i32 (n : Int)
section
variable {P : Program} {env : Env} {rs ms : List Hp} {o : Oper}
theorem op_addR {t t' x y} {a b : Nat} (ho : o.op = .binOp .add t x y t') (hx : ev env x = some (.int .i32 (a : Int))) (hy : ev env y = some (.int .i32 (b : Int))) (hr : a + b ≤ 2147483647) : YOp P env rs o (.int .i32 ((a + b : Nat) : Int)) :=
  op_arw ho hx hy (by
    show ((a + b : Nat) : Int) = IntKind.i32.wrap ((a : Int) + (b : Int))
    rw [wrap_of (k := .i32) (by show (-2147483648 : Int) ≤ _; omega) (by show _ ≤ (2147483647 : Int); omega)]; omega)
theorem op_cvR_i64 {s d x} {n : Nat} (ho : o.op = .convert s d x) (hx : ev env x = some (.int .i32 (n : Int))) (hs : P.underlying s = some (.int .i32)) (hd : P.underlying d = some (.int .i64)) (hr : n ≤ 2147483647) : YOp P env rs o (I n) := op_cvt ho hx hs hd (wrap64_of (by omega))
theorem op_cvN_i32 {s d x} {n : Nat} (ho : o.op = .convert s d x) (hx : ev env x = some (I n)) (hs : P.underlying s = some (.int .i64)) (hd : P.underlying d = some (.int .i32)) (hr : n ≤ 2147483647) : YOp P env rs o (.int .i32 (n : Int)) :=
  op_cvt ho hx hs hd (wrap_of (k := .i32) (by show (-2147483648 : Int) ≤ _; omega) (by show _ ≤ (2147483647 : Int); omega))
theorem op_cvB_i32 {s d x} {c : UInt8} (ho : o.op = .convert s d x) (hx : ev env x = some (B8 c)) (hs : P.underlying s = some (.int .u8)) (hd : P.underlying d = some (.int .i32)) : YOp P env rs o (.int .i32 (c.toNat : Int)) :=
  op_cvt ho hx hs hd (wrap_of (k := .i32) (by have := c.toNat_lt; show (-2147483648 : Int) ≤ _; omega) (by have := c.toNat_lt; show _ ≤ (2147483647 : Int); omega))
theorem op_andZ {t t' x y} {a b r : Int} (ho : o.op = .binOp .and t x y t') (hx : ev env x = some (I a)) (hy : ev env y = some (I b)) (hr : IntKind.i64.wrap (((BitVec.ofInt 64 a) &&& BitVec.ofInt 64 b).toNat : Int) = r) : YOp P env rs o (I r) := fun n ac w hk' _ => by
  have hrun : (Op.intBits .and .i64 a b).run P w = .ok (I r) w := by
    show (Result.ok (Value.int .i64 (IntKind.i64.wrap (((BitVec.ofInt 64 a) &&& BitVec.ofInt 64 b).toNat : Int))) w : Result Value) = _
    rw [hr]
  simp only [execOp, ho, hk'.ev hx, hk'.ev hy]
  simp [eqGuard, binOp, hrun]
/-- a struct out of an array -/
theorem op_indexA {t e x y k i sz N} {cs : Array Value} (ho : o.op = .index t x y) (hx : ev env x = some (.agg cs)) (hy : ev env y = some (.int k ((i : Nat) : Int))) (hu : P.underlying t = some (.array N e))
    (hz : ∀ w, (sizeOf e).run P w = .ok sz w) (hg : ∀ w, (isAgg e).run P w = .ok true w) (hi : i < N) : YOp P env rs o (.agg (cs.extract (i * sz) (i * sz + sz))) := fun n a w hk _ => by
  simp [execOp, ho, hk.ev hx, hk.ev hy, Instr.index, asIntOf, run_underlying hu, hz, hi, part, hg]
/-- a contract of the kit's kind: it gives a value, and what it lays is new -/
theorem St.below {w0 : Wd} {F : Hp} {w w' : World} (h : St w0 [F] w) (hb : Below w.heap.size w w') : St w0 [F] w' := by
  have hk : ∀ m : Hp, Le m (hp w) → Le m (hp w') := fun m hm g o ho => by
    have h1 := hm g o ho
    show w'.heap[g]? = some o
    rw [hb.block g (hp_lt h1)]; exact h1
  exact ⟨hb.os.trans h.os, hb.output.trans h.out, hb.tape.trans h.tape, Nat.le_trans h.size hb.size, h.dj, hk _ h.le, h.kd, hk _ h.kl⟩
theorem Ct.ofBelow {f : FuncId} {vs : List Value} {F : Hp} {v : Value} (h : ∀ w, Le F (hp w) → Calls P f vs.toArray w fun e w' => e = .returned v ∧ Below w.heap.size w w') :
    Ct P f vs [F] (fun _ : Unit => v) (fun _ => True) (fun _ => [F]) := fun w0 w hs =>
  (h w (hs.mem (.head _))).mono fun e w' ⟨he, hb⟩ => ⟨(), he, trivial, hs.below hb⟩
/-- and back: of all that lies -/
theorem Ct.below {f : FuncId} {vs : List Value} {v : Value} {w : World} (h : Ct P f vs [hp w] (fun _ : Unit => v) (fun _ => True) (fun _ => [hp w])) :
    Calls P f vs.toArray w fun e w' => e = .returned v ∧ Below w.heap.size w w' := by
  have hs : St ⟨w, fun _ => none, []⟩ [hp w] w := ⟨rfl, rfl, rfl, Nat.le_refl _, ⟨fun g => .inr rfl, trivial⟩, fun g o ho => by simp only [U] at ho; cases hg : hp w g with | none => rw [hg] at ho; cases ho | some x => rw [hg] at ho; exact ho, fun m _ g => .inl rfl, fun g o ho => by cases ho⟩
  refine (h _ w hs).mono fun e w' ⟨_, he, _, hs'⟩ => ⟨he, hs'.os, hs'.tape, hs'.out, hs'.size, fun k hk => ?_⟩
  have := hs'.mem (.head _) k _ (Array.getElem?_eq_getElem hk)
  exact this.trans (Array.getElem?_eq_getElem hk).symm
end
theorem strsV_snoc (l : List (List UInt8)) (s : List UInt8) : strsV (l ++ [s]) = strsV l ++ [[Str s]] := by simp [strsV]
theorem natsV_snoc (l : List Nat) (s : Nat) : natsV (l ++ [s]) = natsV l ++ [[I (s : Int)]] := by simp [natsV]
theorem bytesV_snoc (l : List UInt8) (s : UInt8) : bytesV (l ++ [s]) = bytesV l ++ [[B8 s]] := by simp [bytesV]
theorem strsV_set (l : List (List UInt8)) (k : Nat) (s : List UInt8) : (strsV l).set k [Str s] = strsV (l.set k s) := by simp [strsV, List.map_set]
theorem natsV_set (l : List Nat) (k s : Nat) : (natsV l).set k [I (s : Int)] = natsV (l.set k s) := by simp [natsV, List.map_set]
theorem bytesV_set (l : List UInt8) (k : Nat) (s : UInt8) : (bytesV l).set k [B8 s] = bytesV (l.set k s) := by simp [bytesV, List.map_set]
theorem bytesV_len (l : List UInt8) : (bytesV l).length = l.length := by simp [bytesV]
theorem strsV_len (l : List (List UInt8)) : (strsV l).length = l.length := by simp [strsV]
theorem one_bytes (a : List UInt8) : (bytesV a).all (fun x => x.all Value.oneCell') = true := by simp [bytesV, Value.oneCell']
/-- both ways of a test, a Bool -/
theorem J.splitB {n : Nat} {env : Env} {w0 : Wd} {ms : List Hp} {φ : Act → World → Prop} {d : Nat} {b : Bool} (hl : look env d = some (.bool b)) (ht : b = true → J n ((d, .bool true) :: env) w0 ms φ) (hf : b = false → J n ((d, .bool false) :: env) w0 ms φ) : J n env w0 ms φ := by
  cases hb : b with
  | true => exact J.bool hl hb (ht hb)
  | false => exact J.bool hl hb (hf hb)
end Go.Fw
