/- Rules for walking a translated function, over heaps that are apart: for any program. -/
import Derived.Test.YtnkfapecbmmpeaaDoorFwI
set_option linter.unusedSimpArgs false
set_option linter.unusedVariables false
namespace Go.Fw
open Go
/-- an unsigned word, as a number -/
abbrev N64 (n : Nat) : Value := .int .u64 (n : Int)
theorem N_W {n : Nat} (h : n < 18446744073709551616) : N64 n = W64 (UInt64.ofNat n) := by
  show Value.int .u64 _ = Value.int .u64 _
  rw [UInt64.toNat_ofNat', Nat.mod_eq_of_lt (by simpa using h)]
theorem ofNat64 {n : Nat} (h : n < 18446744073709551616) : (UInt64.ofNat n).toNat = n := by rw [UInt64.toNat_ofNat']; exact Nat.mod_eq_of_lt (by simpa using h)
section
variable {P : Program} {env : Env} {rs ms : List Hp} {o : Oper} {t t' : TypeId} {x y : Operand} {a b : Nat}
theorem op_addU (ho : o.op = .binOp .add t x y t') (hx : ev env x = some (N64 a)) (hy : ev env y = some (N64 b)) (hr : a + b < 18446744073709551616) : YOp P env rs o (N64 (a + b)) := by
  rw [N_W (by omega)] at hx hy
  exact (op_add64 ho hx hy).as (by show Value.int .u64 _ = Value.int .u64 _; rw [UInt64.toNat_add, ofNat64 (by omega), ofNat64 (by omega), Nat.mod_eq_of_lt (by omega)])
theorem op_mulU (ho : o.op = .binOp .mul t x y t') (hx : ev env x = some (N64 a)) (hy : ev env y = some (N64 b)) (hr : a < 18446744073709551616 ∧ b < 18446744073709551616 ∧ a * b < 18446744073709551616) : YOp P env rs o (N64 (a * b)) := by
  rw [N_W (by omega)] at hx hy
  exact (op_mul64 ho hx hy).as (by show Value.int .u64 _ = Value.int .u64 _; rw [UInt64.toNat_mul, ofNat64 (by omega), ofNat64 (by omega), Nat.mod_eq_of_lt hr.2.2])
theorem op_andU (ho : o.op = .binOp .and t x y t') (hx : ev env x = some (N64 a)) (hy : ev env y = some (N64 b)) (hr : a < 18446744073709551616 ∧ b < 18446744073709551616) : YOp P env rs o (N64 (a &&& b)) := by
  rw [N_W (by omega)] at hx hy
  exact (op_and64 ho hx hy).as (by show Value.int .u64 _ = Value.int .u64 _; rw [UInt64.toNat_and, ofNat64 (by omega), ofNat64 (by omega)])
theorem op_cvU_u8 {s d : TypeId} {c : UInt8} (ho : o.op = .convert s d x) (hx : ev env x = some (B8 c)) (hs : P.underlying s = some (.int .u8)) (hd : P.underlying d = some (.int .u64)) : YOp P env rs o (N64 c.toNat) :=
  (op_cv_u8_u64 ho hx hs hd).as (by show Value.int .u64 _ = Value.int .u64 _; rw [UInt8.toNat_toUInt64])
theorem op_cvU_i64 {s d : TypeId} {m : Nat} (ho : o.op = .convert s d x) (hx : ev env x = some (I m)) (hs : P.underlying s = some (.int .i64)) (hd : P.underlying d = some (.int .u64)) (hr : m < 18446744073709551616) : YOp P env rs o (N64 m) :=
  (op_cv_i64_u64 ho hx hs hd hr).as (N_W hr).symm
theorem op_cvU_toI {s d : TypeId} (ho : o.op = .convert s d x) (hx : ev env x = some (N64 a)) (hs : P.underlying s = some (.int .u64)) (hd : P.underlying d = some (.int .i64)) (hr : a < 9223372036854775808) : YOp P env rs o (I a) := by
  rw [N_W (by omega)] at hx
  exact (op_cv_u64_i64 ho hx hs hd (by rw [ofNat64 (by omega)]; exact hr)).as (by rw [ofNat64 (by omega)])
end
end Go.Fw
