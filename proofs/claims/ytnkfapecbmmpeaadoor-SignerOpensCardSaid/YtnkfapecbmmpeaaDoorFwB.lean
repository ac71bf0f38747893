/- Rules for walking a translated function, over heaps that are apart: for any program. -/
import Derived.Test.YtnkfapecbmmpeaaDoorFwA
set_option linter.unusedSimpArgs false
set_option linter.unusedVariables false
namespace Go.Fw
open Go
section
variable {P : Program} {env : Env} {rs : List Hp} {o : Oper}

abbrev I (n : Int) : Value := .int .i64 n
abbrev B8 (c : UInt8) : Value := .int .u8 (c.toNat : Int)
abbrev W32 (c : UInt32) : Value := .int .u32 (c.toNat : Int)
abbrev W64 (c : UInt64) : Value := .int .u64 (c.toNat : Int)
abbrev Str (l : List UInt8) : Value := .string ⟨l.toArray⟩

theorem YOp.as {v v' : Value} (h : YOp P env rs o v) (e : v = v') : YOp P env rs o v' := e ▸ h

theorem op_move {x v} (ho : o.op = .move x) (hx : ev env x = some v) : YOp P env rs o v := fun n a w hk _ => by
  simp [execOp, ho, hk.ev hx, pure]
theorem op_assign {x v} (ho : o.op = .assign x) (hx : ev env x = some v) : YOp P env rs o v := fun n a w hk _ => by
  simp [execOp, ho, hk.ev hx, pure]
theorem op_pickT {c x y v} (ho : o.op = .pick c x y) (hc : ev env c = some (.bool true)) (hx : ev env x = some v) : YOp P env rs o v := fun n a w hk _ => by
  simp [execOp, ho, hk.ev hx, hk.ev hc, asBool]
theorem op_pickF {c x y v} (ho : o.op = .pick c x y) (hc : ev env c = some (.bool false)) (hy : ev env y = some v) : YOp P env rs o v := fun n a w hk _ => by
  simp [execOp, ho, hk.ev hy, hk.ev hc, asBool]
theorem op_extract {x vs i v} (ho : o.op = .extract x i) (hx : ev env x = some (.tuple vs)) (hi : vs[i]? = some v) : YOp P env rs o v := fun n a w hk _ => by
  simp [execOp, ho, hk.ev hx, Instr.extract, hi]

theorem wrap_of {k : IntKind} {n : Int} (h1 : k.min ≤ n) (h2 : n ≤ k.max) : k.wrap n = n := by
  cases k <;> simp [IntKind.min, IntKind.max, IntKind.wrap, IntKind.signed, IntKind.bits] at * <;> first | (split <;> omega) | omega

theorem op_lss {t t' x y k a b} (ho : o.op = .binOp .lss t x y t') (hx : ev env x = some (.int k a)) (hy : ev env y = some (.int k b)) : YOp P env rs o (.bool (decide (a < b))) := fun n ac w hk _ => by
  simp [execOp, ho, hk.ev hx, hk.ev hy, eqGuard, binOp, Op.intCmp]
theorem op_leq {t t' x y k a b} (ho : o.op = .binOp .leq t x y t') (hx : ev env x = some (.int k a)) (hy : ev env y = some (.int k b)) : YOp P env rs o (.bool (decide (a ≤ b))) := fun n ac w hk _ => by
  simp [execOp, ho, hk.ev hx, hk.ev hy, eqGuard, binOp, Op.intCmp]
theorem op_gtr {t t' x y k a b} (ho : o.op = .binOp .gtr t x y t') (hx : ev env x = some (.int k a)) (hy : ev env y = some (.int k b)) : YOp P env rs o (.bool (decide (b < a))) := fun n ac w hk _ => by
  simp [execOp, ho, hk.ev hx, hk.ev hy, eqGuard, binOp, Op.intCmp]
theorem op_geq {t t' x y k a b} (ho : o.op = .binOp .geq t x y t') (hx : ev env x = some (.int k a)) (hy : ev env y = some (.int k b)) : YOp P env rs o (.bool (decide (b ≤ a))) := fun n ac w hk _ => by
  simp [execOp, ho, hk.ev hx, hk.ev hy, eqGuard, binOp, Op.intCmp]
theorem op_eql {t t' x y k a b} (ho : o.op = .binOp .eql t x y t') (hx : ev env x = some (.int k a)) (hy : ev env y = some (.int k b)) : YOp P env rs o (.bool (decide (a = b))) := fun n ac w hk _ => by
  simp [execOp, ho, hk.ev hx, hk.ev hy, eqGuard, binOp, Op.intCmp]
  rw [Bool.eq_iff_iff]; simp
theorem op_neq {t t' x y k a b} (ho : o.op = .binOp .neq t x y t') (hx : ev env x = some (.int k a)) (hy : ev env y = some (.int k b)) : YOp P env rs o (.bool (decide (a ≠ b))) := fun n ac w hk _ => by
  simp [execOp, ho, hk.ev hx, hk.ev hy, eqGuard, binOp, Op.intCmp]
  rw [Bool.eq_iff_iff]; simp
theorem op_add {t t' x y a b} (ho : o.op = .binOp .add t x y t') (hx : ev env x = some (I a)) (hy : ev env y = some (I b)) (hr : -9223372036854775808 ≤ a + b ∧ a + b ≤ 9223372036854775807) : YOp P env rs o (I (a + b)) := fun n ac w hk _ => by
  have e : IntKind.i64.wrap (a + b) = a + b := wrap_of (by simp [IntKind.min, IntKind.signed, IntKind.bits]; omega) (by simp [IntKind.max, IntKind.signed, IntKind.bits]; omega)
  simp only [execOp, ho, hk.ev hx, hk.ev hy]
  simp [eqGuard, binOp, Op.intArith, e]

theorem wrap64_of {n : Int} (h : -9223372036854775808 ≤ n ∧ n ≤ 9223372036854775807) : IntKind.i64.wrap n = n :=
  wrap_of (by simp [IntKind.min, IntKind.signed, IntKind.bits]; omega) (by simp [IntKind.max, IntKind.signed, IntKind.bits]; omega)
theorem op_sub {t t' x y a b} (ho : o.op = .binOp .sub t x y t') (hx : ev env x = some (I a)) (hy : ev env y = some (I b)) (hr : -9223372036854775808 ≤ a - b ∧ a - b ≤ 9223372036854775807) : YOp P env rs o (I (a - b)) := fun n ac w hk _ => by
  have e := wrap64_of hr
  simp only [execOp, ho, hk.ev hx, hk.ev hy]
  simp [eqGuard, binOp, Op.intArith, e]
theorem op_mul {t t' x y a b} (ho : o.op = .binOp .mul t x y t') (hx : ev env x = some (I a)) (hy : ev env y = some (I b)) (hr : -9223372036854775808 ≤ a * b ∧ a * b ≤ 9223372036854775807) : YOp P env rs o (I (a * b)) := fun n ac w hk _ => by
  have e := wrap64_of hr
  simp only [execOp, ho, hk.ev hx, hk.ev hy]
  simp [eqGuard, binOp, Op.intArith, e]
theorem op_arw {op : BinOp} {t t' x y k a b r} (ho : o.op = .binOp op t x y t') (hx : ev env x = some (.int k a)) (hy : ev env y = some (.int k b))
    (hr : match op with | .add => r = k.wrap (a + b) | .sub => r = k.wrap (a - b) | .mul => r = k.wrap (a * b) | _ => False) : YOp P env rs o (.int k r) := fun n ac w hk _ => by
  simp only [execOp, ho, hk.ev hx, hk.ev hy]
  cases op <;> simp at hr <;> subst hr <;> simp [eqGuard, binOp, Op.intArith]
theorem op_remT {t t' x y k a b} (ho : o.op = .binOp .rem t x y t') (hx : ev env x = some (.int k a)) (hy : ev env y = some (.int k b)) (hb : b ≠ 0) : YOp P env rs o (.int k (a.tmod b)) := fun n ac w hk _ => by
  simp only [execOp, ho, hk.ev hx, hk.ev hy]
  simp [eqGuard, binOp, Op.intDiv, hb]
theorem op_rem {t t' x y k a b} (ho : o.op = .binOp .rem t x y t') (hx : ev env x = some (.int k a)) (hy : ev env y = some (.int k b)) (hr : 0 ≤ a ∧ b ≠ 0) : YOp P env rs o (.int k (a % b)) :=
  (op_remT ho hx hy hr.2).as (by rw [Int.tmod_eq_emod_of_nonneg hr.1])
theorem op_quoT {t t' x y k a b} (ho : o.op = .binOp .quo t x y t') (hx : ev env x = some (.int k a)) (hy : ev env y = some (.int k b)) (hb : b ≠ 0) : YOp P env rs o (.int k (k.wrap (a.tdiv b))) := fun n ac w hk _ => by
  simp only [execOp, ho, hk.ev hx, hk.ev hy]
  simp [eqGuard, binOp, Op.intDiv, hb]
theorem op_quo {t t' x y a b} (ho : o.op = .binOp .quo t x y t') (hx : ev env x = some (I a)) (hy : ev env y = some (I b)) (hr : 0 ≤ a ∧ 0 < b ∧ a ≤ 9223372036854775807) : YOp P env rs o (I (a / b)) :=
  (op_quoT ho hx hy (by omega)).as (by
    have h0 : 0 ≤ a / b := Int.ediv_nonneg hr.1 (by omega)
    have h1 : a / b ≤ a := Int.ediv_le_self b hr.1
    rw [Int.tdiv_eq_ediv_of_nonneg hr.1, wrap64_of ⟨by omega, by omega⟩])
theorem op_not {t x b} (ho : o.op = .unOp .not t x) (hx : ev env x = some (.bool b)) : YOp P env rs o (.bool (!b)) := fun n ac w hk _ => by
  simp [execOp, ho, hk.ev hx, Op.unary]
theorem op_notD {t x} {p : Prop} [Decidable p] (ho : o.op = .unOp .not t x) (hx : ev env x = some (.bool (decide p))) : YOp P env rs o (.bool (decide (¬ p))) :=
  (op_not ho hx).as (by simp)
/-! strings -/
theorem op_sadd {t t' x y a b} (ho : o.op = .binOp .add t x y t') (hx : ev env x = some (Str a)) (hy : ev env y = some (Str b)) (hr : a.length + b.length ≤ 9223372036854775807) : YOp P env rs o (Str (a ++ b)) := fun n ac w hk _ => by
  simp only [execOp, ho, hk.ev hx, hk.ev hy]
  have e : ¬ ((((ByteArray.mk a.toArray).size + (ByteArray.mk b.toArray).size : Nat) : Int) > IntKind.i64.max) := by
    have s1 : (ByteArray.mk a.toArray).size = a.length := by show a.toArray.size = a.length; simp
    have s2 : (ByteArray.mk b.toArray).size = b.length := by show b.toArray.size = b.length; simp
    rw [s1, s2]
    simp [IntKind.max, IntKind.signed, IntKind.bits]; omega
  simp only [eqGuard, binOp, Op.stringOp]
  simp only [e, if_false]
  simp
  ext1
  simp
theorem bytes_beq (a b : List UInt8) : ((ByteArray.mk a.toArray).toList == (ByteArray.mk b.toArray).toList) = decide (a = b) := by
  rw [ByteArray.toList_eq, ByteArray.toList_eq, Bool.eq_iff_iff]; simp
theorem size_mk (a : List UInt8) : (ByteArray.mk a.toArray).size = a.length := by
  show a.toArray.size = a.length
  simp
theorem op_seq {t t' x y a b} (ho : o.op = .binOp .eql t x y t') (hx : ev env x = some (Str a)) (hy : ev env y = some (Str b)) : YOp P env rs o (.bool (decide (a = b))) := fun n ac w hk _ => by
  simp only [execOp, ho, hk.ev hx, hk.ev hy, binOp, Op.stringOp, bytes_beq]
  simp [eqGuard]
theorem op_sne {t t' x y a b} (ho : o.op = .binOp .neq t x y t') (hx : ev env x = some (Str a)) (hy : ev env y = some (Str b)) : YOp P env rs o (.bool (decide (a ≠ b))) := fun n ac w hk _ => by
  simp only [execOp, ho, hk.ev hx, hk.ev hy, binOp, Op.stringOp, bytes_beq]
  simp [eqGuard]
theorem op_slen {t x a} (ht : P.underlying t = some .string) (ho : o.op = .call { callee := .builtin .len, args := #[x], argTypes := #[t] }) (hx : ev env x = some (Str a)) : YOp P env rs o (I a.length) := fun n ac w hk _ => by
  simp [execOp, ho, hk.ev hx, resolve, invoke, builtin, Builtin.len_, run_underlying ht, goInt, size_mk]
theorem op_len {t e x A n' c} (ht : P.underlying t = some (.slice e)) (ho : o.op = .call { callee := .builtin .len, args := #[x], argTypes := #[t] }) (hx : ev env x = some (.slice A n' c)) : YOp P env rs o (I n') := fun n ac w hk _ => by
  simp [execOp, ho, hk.ev hx, resolve, invoke, builtin, Builtin.len_, run_underlying ht, goInt]
theorem op_sindex {t x y a k i} {c : UInt8} (ht : P.underlying t = some .string) (ho : o.op = .index t x y) (hx : ev env x = some (Str a)) (hy : ev env y = some (.int k (i : Nat))) (hc : a[i]? = some c) : YOp P env rs o (B8 c) := fun n ac w hk _ => by
  have hi : i < a.length := (List.getElem?_eq_some_iff.1 hc).1
  have e : (ByteArray.mk a.toArray)[i]? = some c := by
    have h1 : i < (ByteArray.mk a.toArray).size := by rw [size_mk]; exact hi
    have h2 := (List.getElem?_eq_some_iff.1 hc).2
    rw [getElem?_pos (ByteArray.mk a.toArray) i h1]
    exact congrArg some h2
  simp [execOp, ho, hk.ev hx, hk.ev hy, Instr.index, asIntOf, run_underlying ht, e]
theorem op_sslice {t x a} {lo hi : Option Operand} {l h : Nat} (ht : P.underlying t = some .string) (ho : o.op = .slice t x lo hi none) (hx : ev env x = some (Str a))
    (hlo : match lo with | none => l = 0 | some p => ev env p = some (I l)) (hhi : match hi with | none => h = a.length | some p => ev env p = some (I h)) (hr : l ≤ h ∧ h ≤ a.length) :
    YOp P env rs o (Str ((a.take h).drop l)) := fun n ac w hk _ => by
  have e : (ByteArray.mk a.toArray).extract l h = ⟨((a.take h).drop l).toArray⟩ := by
    ext1
    rw [ByteArray.data_extract]
    simp
    rw [List.drop_take]
  have s1 := size_mk a
  cases lo with
  | none =>
    simp only at hlo
    subst hlo
    cases hi with
    | none =>
      simp only at hhi
      subst hhi
      simp [execOp, ho, hk.ev hx, Instr.sliceAt, Instr.slice, run_underlying ht, Instr.sliceBounds, s1, e]
    | some q =>
      simp [execOp, ho, hk.ev hx, hk.ev hhi, Instr.sliceAt, Instr.slice, run_underlying ht, Instr.sliceBounds, Instr.sliceBound, asIntOf, s1, e, hr]
  | some p =>
    cases hi with
    | none =>
      simp only at hhi
      subst hhi
      simp [execOp, ho, hk.ev hx, hk.ev hlo, Instr.sliceAt, Instr.slice, run_underlying ht, Instr.sliceBounds, Instr.sliceBound, asIntOf, s1, e, hr.1]
    | some q =>
      simp [execOp, ho, hk.ev hx, hk.ev hlo, hk.ev hhi, Instr.sliceAt, Instr.slice, run_underlying ht, Instr.sliceBounds, Instr.sliceBound, asIntOf, s1, e, hr]
end
end Go.Fw
