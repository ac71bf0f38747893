/- Rules for walking a translated function, over heaps that are apart: for any program. -/
import Derived.Test.YtnkfapecbmmpeaaDoorFwF
set_option linter.unusedSimpArgs false
set_option linter.unusedVariables false
namespace Go.Fw
open Go
section
variable {P : Program} {env : Env} {rs ms : List Hp} {o : Oper}

theorem op_min {t u x y k a b} (ho : o.op = .call { callee := .builtin .min, args := #[x, y], argTypes := #[t, u] }) (hx : ev env x = some (.int k a)) (hy : ev env y = some (.int k b)) : YOp P env rs o (.int k (min a b)) := fun n ac w hk _ => by
  simp [execOp, ho, hk.ev hx, hk.ev hy, resolve, invoke, builtin, Builtin.min_, Builtin.min2]
  by_cases h : b < a
  · rw [if_pos h, Int.min_eq_right (by omega)]
  · rw [if_neg h, Int.min_eq_left (by omega)]
theorem op_max {t u x y k a b} (ho : o.op = .call { callee := .builtin .max, args := #[x, y], argTypes := #[t, u] }) (hx : ev env x = some (.int k a)) (hy : ev env y = some (.int k b)) : YOp P env rs o (.int k (max a b)) := fun n ac w hk _ => by
  simp [execOp, ho, hk.ev hx, hk.ev hy, resolve, invoke, builtin, Builtin.max_, Builtin.max2]
  by_cases h : a < b
  · rw [Int.max_eq_right (by omega)]; first | rw [if_pos h] | simp [h] | omega
  · rw [Int.max_eq_left (by omega)]; first | rw [if_neg h] | simp [h] | omega
theorem run_equalInP {t e} (ht : P.underlying t = some (.pointer e)) (p : Option Addr) (w : World) (d : Nat) : (Op.equalIn (d + 1) t (.pointer p) (.pointer none)).run P w = .ok p.isNone w := by
  cases p <;> simp [Op.equalIn, run_underlying ht]
theorem op_peq {t e t' x y p} (ht : P.underlying t = some (.pointer e)) (ho : o.op = .binOp .eql t x y t') (hx : ev env x = some (.pointer p)) (hy : ev env y = some (.pointer none)) : YOp P env rs o (.bool p.isNone) := fun n ac w hk _ => by
  have := run_equalInP (P := P) ht p w 9999
  have h2 : (Op.equal t (.pointer p) (.pointer none)).run P w = .ok p.isNone w := this
  simp only [execOp, ho, hk.ev hx, hk.ev hy, binOp]
  cases p <;> simp [eqGuard, h2]
theorem op_loadB (i : Nat) {t x g k l e v} (ho : o.op = .load t x) (hx : ev env x = some (.pointer (some ⟨g, k, none⟩))) (hi : rs[i]? = some (blk g l e)) (hg : ∀ w, (isAgg t).run P w = .ok false w) (hv : l[k]? = some v) : YOp P env rs o v :=
  op_load ho hx hg (List.mem_of_getElem? hi) (Cells.blk1 k hv)
theorem op_loadBA (i : Nat) {t x g l e s} (ho : o.op = .load t x) (hx : ev env x = some (.pointer (some ⟨g, 0, none⟩))) (hi : rs[i]? = some (blk g l e)) (hg : ∀ w, (isAgg t).run P w = .ok true w) (hz : ∀ w, (sizeOf t).run P w = .ok s w) (hl : l.length = s) : YOp P env rs o (.agg l.toArray) :=
  op_loadA ho hx hg hz (List.mem_of_getElem? hi) Cells.blk0 hl

theorem J.fin {n : Nat} {w0 : Wd} {fn : Func} (hw : w0.own = []) {R : Ending → World → Prop} {φ : Act → World → Prop} (hQ : ∀ a w, bodyPostM Fence.wide 0 P fn R .normal a w → φ a w) {v : Value} (hr : ∀ a w, Kn n env a → St w0 ms w → (results fn a.tmps).run P w = .ok v w) (h : ∀ w, St w0 ms w → R (.returned v) w) : J n env w0 ms φ :=
  J.done hw hQ hr h

/-! ints -/
theorem op_shlI {t t' x y a yk} {m : Nat} (ho : o.op = .binOp .shl t x y t') (hx : ev env x = some (I a)) (hy : ev env y = some (.int yk (m : Nat))) (hr : m < 64 ∧ -9223372036854775808 ≤ a * 2 ^ m ∧ a * 2 ^ m ≤ 9223372036854775807) : YOp P env rs o (I (a * 2 ^ m)) := fun n ac w hk _ => by
  have e := wrap64_of hr.2
  have e2 : min m IntKind.i64.bits = m := by simp [IntKind.bits]; omega
  have hm : ¬ ((m : Int) < 0) := by omega
  simp only [execOp, ho, hk.ev hx, hk.ev hy, binOp, Op.shift, if_neg hm, Int.toNat_natCast, e2, e]
  simp [eqGuard]
theorem op_shrI {t t' x y a yk} {m : Nat} (ho : o.op = .binOp .shr t x y t') (hx : ev env x = some (I a)) (hy : ev env y = some (.int yk (m : Nat))) (hr : m < 64 ∧ 0 ≤ a) : YOp P env rs o (I (a / 2 ^ m)) := fun n ac w hk _ => by
  have e2 : min m IntKind.i64.bits = m := by simp [IntKind.bits]; omega
  have hm : ¬ ((m : Int) < 0) := by omega
  have h0 : (0 : Int) ≤ 2 ^ m := Int.le_of_lt (Int.pow_pos (by omega))
  simp only [execOp, ho, hk.ev hx, hk.ev hy, binOp, Op.shift, if_neg hm, Int.toNat_natCast, e2, Int.fdiv_eq_ediv_of_nonneg _ h0]
  simp [eqGuard]
theorem ofInt_nat (w n : Nat) : BitVec.ofInt w (n : Int) = BitVec.ofNat w n := by
  apply BitVec.eq_of_toNat_eq; simp
def BitOp (op : BinOp) (a b r : Nat) : Prop := match op with | .and => r = a &&& b | .or => r = a ||| b | .xor => r = a ^^^ b | _ => False
theorem run_bits (k : IntKind) {op : BinOp} {a b r : Nat} (ha : a < 2 ^ k.bits) (hb : b < 2 ^ k.bits) (w : World)
    (hop : BitOp op a b r) : (Op.intBits op k a b).run P w = .ok (.int k (k.wrap (r : Int))) w := by
  cases op <;> simp only [BitOp] at hop <;> first | exact hop.elim | (subst hop; simp [Op.intBits, ofInt_nat, Nat.mod_eq_of_lt ha, Nat.mod_eq_of_lt hb])
theorem op_bitI {op : BinOp} {t t' x y} {a b r : Nat} (ho : o.op = .binOp op t x y t') (hx : ev env x = some (I a)) (hy : ev env y = some (I b)) (hr : a < 9223372036854775808 ∧ b < 9223372036854775808)
    (hop : BitOp op a b r) : YOp P env rs o (I r) := fun n ac w hk _ => by
  have hr1 : r < 9223372036854775808 := by
    cases op <;> simp only [BitOp] at hop <;> first | exact hop.elim | (subst hop; first | exact Nat.lt_of_le_of_lt Nat.and_le_left hr.1 | exact Nat.or_lt_two_pow (n := 63) hr.1 hr.2 | exact Nat.xor_lt_two_pow (n := 63) hr.1 hr.2)
  have e := wrap64_of (n := (r : Int)) ⟨by omega, by omega⟩
  have hrun := run_bits (P := P) .i64 (op := op) (a := a) (b := b) (r := r) (by show a < 2 ^ 64; omega) (by show b < 2 ^ 64; omega) w hop
  rw [e] at hrun
  simp only [execOp, ho, hk.ev hx, hk.ev hy]
  cases op <;> simp only [BitOp] at hop <;> first | exact hop.elim | (simp [eqGuard, binOp, hrun])
theorem op_andI {t t' x y} {a b : Nat} (ho : o.op = .binOp .and t x y t') (hx : ev env x = some (I a)) (hy : ev env y = some (I b)) (hr : a < 9223372036854775808 ∧ b < 9223372036854775808) : YOp P env rs o (I ((a &&& b : Nat) : Int)) := op_bitI ho hx hy hr rfl
theorem op_xorI {t t' x y} {a b : Nat} (ho : o.op = .binOp .xor t x y t') (hx : ev env x = some (I a)) (hy : ev env y = some (I b)) (hr : a < 9223372036854775808 ∧ b < 9223372036854775808) : YOp P env rs o (I ((a ^^^ b : Nat) : Int)) := op_bitI ho hx hy hr rfl

/-! u8 -/
theorem wrapU8 (n : Nat) : IntKind.u8.wrap (n : Int) = ((n % 256 : Nat) : Int) := by
  simp [IntKind.wrap, IntKind.bits, IntKind.signed]
theorem op_bit8 {op : BinOp} {t t' x y} {a b r : UInt8} (ho : o.op = .binOp op t x y t') (hx : ev env x = some (B8 a)) (hy : ev env y = some (B8 b))
    (hop : BitOp op a.toNat b.toNat r.toNat) : YOp P env rs o (B8 r) := fun n ac w hk _ => by
  have hrun := run_bits (P := P) .u8 (op := op) (a := a.toNat) (b := b.toNat) (r := r.toNat) a.toNat_lt b.toNat_lt w hop
  rw [wrapU8, Nat.mod_eq_of_lt r.toNat_lt] at hrun
  simp only [execOp, ho, hk.ev hx, hk.ev hy]
  cases op <;> simp only [BitOp] at hop <;> first | exact hop.elim | (simp [eqGuard, binOp, hrun])
theorem op_and8 {t t' x y} {a b : UInt8} (ho : o.op = .binOp .and t x y t') (hx : ev env x = some (B8 a)) (hy : ev env y = some (B8 b)) : YOp P env rs o (B8 (a &&& b)) := op_bit8 ho hx hy (by simp [BitOp])
theorem op_shr8 {t t' x y yk} {a : UInt8} {m : Nat} (ho : o.op = .binOp .shr t x y t') (hx : ev env x = some (B8 a)) (hy : ev env y = some (.int yk (m : Nat))) : YOp P env rs o (B8 (UInt8.ofNat (a.toNat / 2 ^ min m 8))) := fun n ac w hk _ => by
  have hm : ¬ ((m : Int) < 0) := by omega
  have h1 : a.toNat / 2 ^ min m 8 < 256 := Nat.lt_of_le_of_lt (Nat.div_le_self _ _) a.toNat_lt
  have e : ((a.toNat : Int).fdiv (2 ^ min m 8)) = ((UInt8.ofNat (a.toNat / 2 ^ min m 8)).toNat : Int) := by
    rw [Int.fdiv_eq_ediv_of_nonneg _ (Int.le_of_lt (Int.pow_pos (by omega))), UInt8.toNat_ofNat', Nat.mod_eq_of_lt h1]
    simp
  simp only [execOp, ho, hk.ev hx, hk.ev hy, binOp, Op.shift, if_neg hm, Int.toNat_natCast, IntKind.bits, e]
  simp [eqGuard]
/-! u32 -/
theorem wrapU32 (n : Nat) : IntKind.u32.wrap (n : Int) = ((n % 4294967296 : Nat) : Int) := by
  simp [IntKind.wrap, IntKind.bits, IntKind.signed]
theorem op_add32 {t t' x y} {a b : UInt32} (ho : o.op = .binOp .add t x y t') (hx : ev env x = some (W32 a)) (hy : ev env y = some (W32 b)) : YOp P env rs o (W32 (a + b)) :=
  op_arw ho hx hy (by show (_ : Int) = _; rw [← Int.natCast_add, wrapU32, UInt32.toNat_add])
theorem op_bit32 {op : BinOp} {t t' x y} {a b r : UInt32} (ho : o.op = .binOp op t x y t') (hx : ev env x = some (W32 a)) (hy : ev env y = some (W32 b))
    (hop : BitOp op a.toNat b.toNat r.toNat) : YOp P env rs o (W32 r) := fun n ac w hk _ => by
  have hrun := run_bits (P := P) .u32 (op := op) (a := a.toNat) (b := b.toNat) (r := r.toNat) a.toNat_lt b.toNat_lt w hop
  rw [wrapU32, Nat.mod_eq_of_lt r.toNat_lt] at hrun
  simp only [execOp, ho, hk.ev hx, hk.ev hy]
  cases op <;> simp only [BitOp] at hop <;> first | exact hop.elim | (simp [eqGuard, binOp, hrun])
theorem op_and32 {t t' x y} {a b : UInt32} (ho : o.op = .binOp .and t x y t') (hx : ev env x = some (W32 a)) (hy : ev env y = some (W32 b)) : YOp P env rs o (W32 (a &&& b)) := op_bit32 ho hx hy (by simp [BitOp])
theorem op_or32 {t t' x y} {a b : UInt32} (ho : o.op = .binOp .or t x y t') (hx : ev env x = some (W32 a)) (hy : ev env y = some (W32 b)) : YOp P env rs o (W32 (a ||| b)) := op_bit32 ho hx hy (by simp [BitOp])
theorem op_xor32 {t t' x y} {a b : UInt32} (ho : o.op = .binOp .xor t x y t') (hx : ev env x = some (W32 a)) (hy : ev env y = some (W32 b)) : YOp P env rs o (W32 (a ^^^ b)) := op_bit32 ho hx hy (by simp [BitOp])
theorem op_com32 {t x} {a : UInt32} (ho : o.op = .unOp .xor t x) (hx : ev env x = some (W32 a)) : YOp P env rs o (W32 (~~~ a)) := fun n ac w hk _ => by
  have hlt := a.toNat_lt
  have e1 : (~~~ a).toNat = 4294967295 ^^^ a.toNat := by
    have h := BitVec.allOnes_xor (x := a.toBitVec)
    have h2 := congrArg BitVec.toNat h
    rw [BitVec.toNat_xor, BitVec.toNat_allOnes] at h2
    exact h2.symm
  have hrun := run_bits (P := P) .u32 (op := .xor) (a := 4294967295) (b := a.toNat) (r := (~~~ a).toNat) (by decide) hlt w e1
  rw [wrapU32, Nat.mod_eq_of_lt (~~~ a).toNat_lt] at hrun
  have e3 : (if IntKind.u32.signed = true then (-1 : Int) else IntKind.u32.max) = ((4294967295 : Nat) : Int) := by decide
  simp only [execOp, ho, hk.ev hx, Op.unary, e3, Sem.run_bind, hrun]
  rfl
theorem op_shl32 {t t' x y yk} {a : UInt32} {m : Nat} (ho : o.op = .binOp .shl t x y t') (hx : ev env x = some (W32 a)) (hy : ev env y = some (.int yk (m : Nat))) : YOp P env rs o (W32 (UInt32.ofNat (a.toNat * 2 ^ min m 32))) := fun n ac w hk _ => by
  have hm : ¬ ((m : Int) < 0) := by omega
  have e : IntKind.u32.wrap ((a.toNat : Int) * 2 ^ min m 32) = ((UInt32.ofNat (a.toNat * 2 ^ min m 32)).toNat : Int) := by
    have := wrapU32 (a.toNat * 2 ^ min m 32)
    rw [UInt32.toNat_ofNat', ← this]
    simp
  simp only [execOp, ho, hk.ev hx, hk.ev hy, binOp, Op.shift, if_neg hm, Int.toNat_natCast, IntKind.bits, e]
  simp [eqGuard]
theorem op_shr32 {t t' x y yk} {a : UInt32} {m : Nat} (ho : o.op = .binOp .shr t x y t') (hx : ev env x = some (W32 a)) (hy : ev env y = some (.int yk (m : Nat))) : YOp P env rs o (W32 (UInt32.ofNat (a.toNat / 2 ^ min m 32))) := fun n ac w hk _ => by
  have hm : ¬ ((m : Int) < 0) := by omega
  have h1 : a.toNat / 2 ^ min m 32 < 4294967296 := Nat.lt_of_le_of_lt (Nat.div_le_self _ _) a.toNat_lt
  have e : ((a.toNat : Int).fdiv (2 ^ min m 32)) = ((UInt32.ofNat (a.toNat / 2 ^ min m 32)).toNat : Int) := by
    rw [Int.fdiv_eq_ediv_of_nonneg _ (Int.le_of_lt (Int.pow_pos (by omega))), UInt32.toNat_ofNat', Nat.mod_eq_of_lt h1]
    simp
  simp only [execOp, ho, hk.ev hx, hk.ev hy, binOp, Op.shift, if_neg hm, Int.toNat_natCast, IntKind.bits, e]
  simp [eqGuard]
/-! u64 -/
theorem wrapU64 (n : Nat) : IntKind.u64.wrap (n : Int) = ((n % 18446744073709551616 : Nat) : Int) := by
  simp [IntKind.wrap, IntKind.bits, IntKind.signed]
theorem op_add64 {t t' x y} {a b : UInt64} (ho : o.op = .binOp .add t x y t') (hx : ev env x = some (W64 a)) (hy : ev env y = some (W64 b)) : YOp P env rs o (W64 (a + b)) :=
  op_arw ho hx hy (by show (_ : Int) = _; rw [← Int.natCast_add, wrapU64, UInt64.toNat_add])
theorem op_mul64 {t t' x y} {a b : UInt64} (ho : o.op = .binOp .mul t x y t') (hx : ev env x = some (W64 a)) (hy : ev env y = some (W64 b)) : YOp P env rs o (W64 (a * b)) :=
  op_arw ho hx hy (by show (_ : Int) = _; rw [← Int.natCast_mul, wrapU64, UInt64.toNat_mul])
theorem op_bit64 {op : BinOp} {t t' x y} {a b r : UInt64} (ho : o.op = .binOp op t x y t') (hx : ev env x = some (W64 a)) (hy : ev env y = some (W64 b))
    (hop : BitOp op a.toNat b.toNat r.toNat) : YOp P env rs o (W64 r) := fun n ac w hk _ => by
  have hrun := run_bits (P := P) .u64 (op := op) (a := a.toNat) (b := b.toNat) (r := r.toNat) a.toNat_lt b.toNat_lt w hop
  rw [wrapU64, Nat.mod_eq_of_lt r.toNat_lt] at hrun
  simp only [execOp, ho, hk.ev hx, hk.ev hy]
  cases op <;> simp only [BitOp] at hop <;> first | exact hop.elim | (simp [eqGuard, binOp, hrun])
theorem op_and64 {t t' x y} {a b : UInt64} (ho : o.op = .binOp .and t x y t') (hx : ev env x = some (W64 a)) (hy : ev env y = some (W64 b)) : YOp P env rs o (W64 (a &&& b)) := op_bit64 ho hx hy (by simp [BitOp])
theorem op_or64 {t t' x y} {a b : UInt64} (ho : o.op = .binOp .or t x y t') (hx : ev env x = some (W64 a)) (hy : ev env y = some (W64 b)) : YOp P env rs o (W64 (a ||| b)) := op_bit64 ho hx hy (by simp [BitOp])
theorem op_shl64 {t t' x y yk} {a : UInt64} {m : Nat} (ho : o.op = .binOp .shl t x y t') (hx : ev env x = some (W64 a)) (hy : ev env y = some (.int yk (m : Nat))) : YOp P env rs o (W64 (UInt64.ofNat (a.toNat * 2 ^ min m 64))) := fun n ac w hk _ => by
  have hm : ¬ ((m : Int) < 0) := by omega
  have e : IntKind.u64.wrap ((a.toNat : Int) * 2 ^ min m 64) = ((UInt64.ofNat (a.toNat * 2 ^ min m 64)).toNat : Int) := by
    have := wrapU64 (a.toNat * 2 ^ min m 64)
    rw [UInt64.toNat_ofNat', ← this]
    simp
  simp only [execOp, ho, hk.ev hx, hk.ev hy, binOp, Op.shift, if_neg hm, Int.toNat_natCast, IntKind.bits, e]
  simp [eqGuard]
theorem op_shr64 {t t' x y yk} {a : UInt64} {m : Nat} (ho : o.op = .binOp .shr t x y t') (hx : ev env x = some (W64 a)) (hy : ev env y = some (.int yk (m : Nat))) : YOp P env rs o (W64 (UInt64.ofNat (a.toNat / 2 ^ min m 64))) := fun n ac w hk _ => by
  have hm : ¬ ((m : Int) < 0) := by omega
  have h1 : a.toNat / 2 ^ min m 64 < 18446744073709551616 := Nat.lt_of_le_of_lt (Nat.div_le_self _ _) a.toNat_lt
  have e : ((a.toNat : Int).fdiv (2 ^ min m 64)) = ((UInt64.ofNat (a.toNat / 2 ^ min m 64)).toNat : Int) := by
    rw [Int.fdiv_eq_ediv_of_nonneg _ (Int.le_of_lt (Int.pow_pos (by omega))), UInt64.toNat_ofNat', Nat.mod_eq_of_lt h1]
    simp
  simp only [execOp, ho, hk.ev hx, hk.ev hy, binOp, Op.shift, if_neg hm, Int.toNat_natCast, IntKind.bits, e]
  simp [eqGuard]
/-! conversions -/
theorem op_cvt {s d x ks kd n r} (ho : o.op = .convert s d x) (hx : ev env x = some (.int ks n)) (hs : P.underlying s = some (.int ks)) (hd : P.underlying d = some (.int kd)) (hr : kd.wrap n = r) : YOp P env rs o (.int kd r) := fun nn a w hk _ => by
  simp [execOp, ho, hk.ev hx, convert, run_underlying hs, run_underlying hd, Conv.intToInt, hr]
theorem op_cv_u8_u32 {s d x} {c : UInt8} (ho : o.op = .convert s d x) (hx : ev env x = some (B8 c)) (hs : P.underlying s = some (.int .u8)) (hd : P.underlying d = some (.int .u32)) : YOp P env rs o (W32 (c.toUInt32)) := op_cvt ho hx hs hd (by have := c.toNat_lt; rw [wrapU32, Nat.mod_eq_of_lt (by omega)]; simp)
theorem op_cv_u8_u64 {s d x} {c : UInt8} (ho : o.op = .convert s d x) (hx : ev env x = some (B8 c)) (hs : P.underlying s = some (.int .u8)) (hd : P.underlying d = some (.int .u64)) : YOp P env rs o (W64 (c.toUInt64)) := op_cvt ho hx hs hd (by have := c.toNat_lt; rw [wrapU64, Nat.mod_eq_of_lt (by omega)]; simp)
theorem op_cv_u8_i64 {s d x} {c : UInt8} (ho : o.op = .convert s d x) (hx : ev env x = some (B8 c)) (hs : P.underlying s = some (.int .u8)) (hd : P.underlying d = some (.int .i64)) : YOp P env rs o (I c.toNat) := op_cvt ho hx hs hd (wrap64_of (by have := c.toNat_lt; omega))
theorem op_cv_i64_u8 {s d x} {m : Nat} (ho : o.op = .convert s d x) (hx : ev env x = some (I m)) (hs : P.underlying s = some (.int .i64)) (hd : P.underlying d = some (.int .u8)) : YOp P env rs o (B8 (UInt8.ofNat m)) := op_cvt ho hx hs hd (by rw [wrapU8]; simp)
theorem op_cv_u32_u64 {s d x} {c : UInt32} (ho : o.op = .convert s d x) (hx : ev env x = some (W32 c)) (hs : P.underlying s = some (.int .u32)) (hd : P.underlying d = some (.int .u64)) : YOp P env rs o (W64 (c.toUInt64)) := op_cvt ho hx hs hd (by have := c.toNat_lt; rw [wrapU64, Nat.mod_eq_of_lt (by omega)]; simp)
theorem op_cv_u64_u8 {s d x} {c : UInt64} (ho : o.op = .convert s d x) (hx : ev env x = some (W64 c)) (hs : P.underlying s = some (.int .u64)) (hd : P.underlying d = some (.int .u8)) : YOp P env rs o (B8 (c.toUInt8)) := op_cvt ho hx hs hd (by rw [wrapU8]; simp)
theorem op_cv_u64_i64 {s d x} {c : UInt64} (ho : o.op = .convert s d x) (hx : ev env x = some (W64 c)) (hs : P.underlying s = some (.int .u64)) (hd : P.underlying d = some (.int .i64)) (hr : c.toNat < 9223372036854775808) : YOp P env rs o (I c.toNat) := op_cvt ho hx hs hd (wrap64_of (by omega))
theorem op_cv_i64_u64 {s d x} {m : Nat} (ho : o.op = .convert s d x) (hx : ev env x = some (I m)) (hs : P.underlying s = some (.int .i64)) (hd : P.underlying d = some (.int .u64)) (_hr : m < 18446744073709551616) : YOp P env rs o (W64 (UInt64.ofNat m)) := op_cvt ho hx hs hd (by rw [wrapU64]; simp)
theorem op_cvZ_i64_u64 {s d x} {m : Int} (ho : o.op = .convert s d x) (hx : ev env x = some (I m)) (hs : P.underlying s = some (.int .i64)) (hd : P.underlying d = some (.int .u64)) : YOp P env rs o (W64 (UInt64.ofNat (m % 18446744073709551616).toNat)) := op_cvt ho hx hs hd (by simp [IntKind.wrap, IntKind.bits, IntKind.signed]; omega)
end
end Go.Fw
