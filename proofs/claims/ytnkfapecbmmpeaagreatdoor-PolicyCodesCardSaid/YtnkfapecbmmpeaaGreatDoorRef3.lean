/- A part of the proof: contracts of functions of the program, each for every state of the heaps that it names. -/
import Derived.Test.YtnkfapecbmmpeaaGreatDoorShaX
import Derived.Test.YtnkfapecbmmpeaaGreatDoorFwU
import Derived.Test.YtnkfapecbmmpeaaGreatDoorFwS
import Derived.Test.YtnkfapecbmmpeaaGreatDoorR3
set_option linter.unusedSimpArgs false
set_option linter.unusedVariables false
namespace Go.Proofs.YtnkfapecbmmpeaaGreatDoor
open Go Go.Fw
set_option maxRecDepth 100000
set_option maxHeartbeats 1000000

abbrev NW (x : UInt32) : Value := N64 x.toNat
def numsV (l : List Nat) : List (List Value) := l.map fun x => [N64 x]
theorem numsV_get {l : List Nat} {k : Nat} (h : k < l.length) : (numsV l)[k]? = some [N64 (l.getD k 0)] := by
  unfold numsV; rw [List.getElem?_map, List.getElem?_eq_getElem h, List.getD_eq_getElem?_getD, List.getElem?_eq_getElem h]; rfl
theorem numsV_flat (l : List Nat) : (numsV l).flatten = l.map N64 := flatten_sing _ _
theorem numsV_len (l : List Nat) : (numsV l).length = l.length := by simp [numsV]
theorem numsV_app (a b : List Nat) : numsV (a ++ b) = numsV a ++ numsV b := by simp [numsV]
theorem numsV_one (a : List Nat) : (numsV a).all (fun x => x.all Value.oneCell') = true := by simp [numsV, Value.oneCell']
theorem row_nums {q : Prop} {e g : Nat} (l : List Nat) {n : Nat} (hn : l.length = n) : RowQ q (blk g (l.map N64) e) e 1 (some ⟨g, 0, none⟩) n n (numsV l) := by
  rw [← numsV_flat]; exact row_blk (by rw [numsV_len, hn]) (by simp [numsV])


section
variable {P : Program} {env : Env} {rs : List Hp} {o : Oper} {t t' : TypeId} {x y : Operand} {a b : UInt32}
theorem op_xorW (ho : o.op = .binOp .xor t x y t') (hx : ev env x = some (NW a)) (hy : ev env y = some (NW b)) : YOp P env rs o (NW (a ^^^ b)) :=
  (op_xorU ho hx hy (by have := a.toNat_lt; have := b.toNat_lt; omega)).as (congrArg N64 (UInt32.toNat_xor a b).symm)
theorem op_andW (ho : o.op = .binOp .and t x y t') (hx : ev env x = some (NW a)) (hy : ev env y = some (NW b)) : YOp P env rs o (NW (a &&& b)) :=
  (op_andU ho hx hy (by have := a.toNat_lt; have := b.toNat_lt; omega)).as (congrArg N64 (UInt32.toNat_and a b).symm)
theorem toNat_com (a : UInt32) : (~~~ a).toNat = 4294967295 - a.toNat := by
  simp
theorem op_comW (ho : o.op = .binOp .sub t x y t') (hx : ev env x = some (N64 4294967295)) (hy : ev env y = some (NW a)) : YOp P env rs o (NW (~~~ a)) :=
  (op_subU ho hx hy (by have := a.toNat_lt; omega)).as (congrArg N64 (toNat_com a).symm)
end
abbrev nws (l : List UInt32) : List Nat := l.map UInt32.toNat
attribute [local irreducible] Sha.rnds Sha.sched Sha.mix Sha.rotr R3.roots Sha.exts

theorem elemAt_lit (g i sz : Nat) : elemAt (some ⟨g, 0, none⟩) i sz = ⟨g, i * sz, none⟩ := by
  unfold elemAt
  simp only [Option.getD_some]
  rw [Addr.add_lit]; simp

end Go.Proofs.YtnkfapecbmmpeaaGreatDoor
