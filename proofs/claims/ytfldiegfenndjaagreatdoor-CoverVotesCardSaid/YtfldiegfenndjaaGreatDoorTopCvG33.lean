/- A part of the proof. -/
import Derived.Test.YtfldiegfenndjaaGreatDoorTopCvG14
import Derived.Test.YtfldiegfenndjaaGreatDoorTopCvG20
set_option linter.unusedSimpArgs false
set_option linter.unusedVariables false
namespace Go.Proofs.YtfldiegfenndjaaGreatDoor
open Go Go.Fw Go.Proofs.Tryz
set_option maxRecDepth 100000
set_option maxHeartbeats 1000000
attribute [local irreducible] SN.tagN Sha.tagged
namespace Tn
open SN (forceL qAt)
abbrev nat (l : List UInt8) : List Nat := l.map UInt8.toNat
theorem qSG {a b : List UInt8} : nat a = nat b ↔ a = b := ⟨SN.of_toNat, fun h => by rw [h]⟩
def kvN : List Nat → Nat
 | [] => 0
 | b :: r => b * 256 ^ r.length + kvN r
theorem qQm : ∀ k : List UInt8, kvN (nat k) = Sm.kv k
 | [] => rfl
 | b :: r => by
  show b.toNat * 256 ^ (nat r).length + kvN (nat r) = _
  rw [qQm r, show (nat r).length = r.length from List.length_map _, Sm.kv]
def qLP (s : List Nat) : Prop := s ≠ [] ∧ s.take 1 = [1]
instance (s : List Nat) : Decidable (qLP s) := by unfold qLP; infer_instance
theorem qSQ (s : List UInt8) : qLP (nat s) ↔ Sb.isLf s := by
 unfold qLP Sb.isLf
 cases s with
 | nil => simp
 | cons a r =>
  simp only [nat, List.map_cons, List.take_succ_cons, List.take_zero, ne_eq, reduceCtorEq, not_false_eq_true, true_and, List.cons.injEq, and_true]
  constructor
  · intro h; exact UInt8.toNat_inj.1 h
  · intro h; rw [h]; rfl
noncomputable def joinN (a b : List Nat) : List Nat := forceL a fun a => forceL b fun b => if a = [0] ∧ (b = [0] ∨ qLP b) then b else if b = [0] ∧ qLP a then a else 2 :: SN.tagN 10 [a, b]
theorem qQz (s : List UInt8) : nat s = [0] ↔ s = [0] := qSG (b := [0])
theorem qPi (a b : List UInt8) (ha : a.length ≤ 1000) (hb : b.length ≤ 1000) : joinN (nat a) (nat b) = nat (Sb.join a b) := by
  unfold joinN Sb.join
  rw [qAt, qAt]
  simp only [qQz, qSQ]
  split
  · rfl
  · split
    · rfl
    · have := SN.tagN_eq 10 [a, b] (by simp only [List.flatten_cons, List.flatten_nil, List.append_nil, List.length_append, List.length_cons, List.length_nil]; omega)
      show 2 :: SN.tagN 10 [nat a, nat b] = nat (2 :: Sha.tagged 10 [a, b])
      exact congrArg (List.cons 2) this
abbrev PN := List Nat × List Nat
def natP (p : Sm.PR) : PN := (nat p.1, nat p.2)
def qKs (f : Nat) (b : Bool) (l : List PN) : List PN := l.filter fun p => decide (kvN p.1 / 2 ^ f % 2 = 0) == b
theorem sideN_eq (f : Nat) (b : Bool) (l : List Sm.PR) : qKs f b (l.map natP) = (Sm.side f b l).map natP := by
 unfold qKs Sm.side
 rw [List.filter_map]
 congr 1
 apply List.filter_congr
 intro p _
 show (decide (kvN (nat p.1) / 2 ^ f % 2 = 0) == b) = _
 rw [qQm]
noncomputable def ndN : Nat → List PN → List Nat
 | _, [] => [0]
 | _, [p] => 1 :: SN.tagN 9 [p.1, p.2]
 | 0, _ => []
 | f + 1, l => joinN (ndN f (qKs f true l)) (ndN f (qKs f false l))
theorem qSE (f : Nat) (p q : PN) (r : List PN) : ndN (f + 1) (p :: q :: r) = joinN (ndN f (qKs f true (p :: q :: r))) (ndN f (qKs f false (p :: q :: r))) := by
 rw [ndN]
 · intro h; cases h
 · intro x h; cases h
def small (l : List Sm.PR) : Prop := ∀ p ∈ l, p.1.length ≤ 1000 ∧ p.2.length ≤ 1000
theorem qPE : ∀ (f : Nat) (l : List Sm.PR), (Sm.nd f l).length ≤ 17
  | f, [] => by rw [Sm.nd_nil]; decide
  | f, [p] => by rw [Sm.nd_one]; unfold Sb.leafN; rw [List.length_cons, Sha.tagged_length]; decide
  | 0, p :: q :: r => Nat.zero_le _
  | f + 1, p :: q :: r => by
    rw [Sm.nd_two f (by simp)]
    unfold Sb.join
    have h1 := qPE f (Sm.side f true (p :: q :: r))
    have h2 := qPE f (Sm.side f false (p :: q :: r))
    split
    · exact h2
    · split
      · exact h1
      · rw [List.length_cons, Sha.tagged_length]; decide
theorem ndN_eq : ∀ (f : Nat) (l : List Sm.PR), small l → ndN f (l.map natP) = nat (Sm.nd f l)
 | f, [], _ => by rw [Sm.nd_nil]; cases f <;> rfl
 | f, [p], h => by
  have h1 := h p (.head _)
  have := SN.tagN_eq 9 [p.1, p.2] (by simp only [List.flatten_cons, List.flatten_nil, List.append_nil, List.length_append, List.length_cons, List.length_nil]; omega)
  rw [Sm.nd_one]
  have e : ndN f [natP p] = 1 :: SN.tagN 9 [nat p.1, nat p.2] := by cases f <;> rfl
  show ndN f [natP p] = _
  rw [e]
  show _ = nat (1 :: Sha.tagged 9 [p.1, p.2])
  exact congrArg (List.cons 1) this
 | 0, p :: q :: r, _ => rfl
 | f + 1, p :: q :: r, h => by
  have hs : ∀ b, small (Sm.side f b (p :: q :: r)) := fun b x hx => h x (List.mem_filter.1 hx).1
  rw [Sm.nd_two f (by simp), List.map_cons, List.map_cons, qSE, ← List.map_cons, ← List.map_cons, sideN_eq, sideN_eq, ndN_eq f _ (hs true), ndN_eq f _ (hs false)]
  exact qPi _ _ (Nat.le_trans (qPE _ _) (by decide)) (Nat.le_trans (qPE _ _) (by decide))
end Tn
end Go.Proofs.YtfldiegfenndjaaGreatDoor
