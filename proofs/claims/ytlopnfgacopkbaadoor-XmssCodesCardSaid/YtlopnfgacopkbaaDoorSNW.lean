/- A part of the proof: contracts of functions of the program, each for every state of the heaps that it names. -/
import Derived.Test.YtlopnfgacopkbaaDoorLibW
import Derived.Test.YtlopnfgacopkbaaDoorSN
set_option linter.unusedSimpArgs false
set_option linter.unusedVariables false
namespace Go.Proofs.YtlopnfgacopkbaaDoor
set_option maxRecDepth 100000
set_option maxHeartbeats 1000000

namespace SN
noncomputable def placeN (leaf chain k : Nat) : List Nat := bytes4 leaf ++ [chain % 256, k % 256]
theorem placeN_eq (leaf chain k : Nat) (h : leaf < 18446744073709551616) : placeN leaf chain k = (Wo.place leaf chain k).map UInt8.toNat := by
  unfold placeN
  rw [bytes4_eq leaf h, R3.four_nat leaf h]
  simp [Wo.place, UInt8.toNat_ofNat']
noncomputable def walkN (o : List Nat) (leaf chain n : Nat) : Nat → List Nat → List Nat := Nat.rec (fun _ x => x) (fun _ ih a x => forceL (tagN 2 [o, placeN leaf chain a, x]) fun y => force (a + 1) fun b => ih b y) n
theorem walkN_zero (o : List Nat) (leaf chain a : Nat) (x : List Nat) : walkN o leaf chain 0 a x = x := rfl
theorem walkN_step (o : List Nat) (leaf chain n a : Nat) (x : List Nat) : walkN o leaf chain (n + 1) a x = forceL (tagN 2 [o, placeN leaf chain a, x]) fun y => force (a + 1) fun b => walkN o leaf chain n b y := rfl
attribute [local irreducible] walkN tagN placeN
theorem stepN_eq (o : List UInt8) (leaf chain k : Nat) (x : List UInt8) (h : leaf < 18446744073709551616) (ho : o.length ≤ 1048576) (hx : x.length ≤ 1048576) : tagN 2 [o.map UInt8.toNat, placeN leaf chain k, x.map UInt8.toNat] = (Wo.step o leaf chain k x).map UInt8.toNat := by
  have := tagN_eq 2 [o, Wo.place leaf chain k, x] (by simp [Wo.place_length]; omega)
  rw [placeN_eq leaf chain k h]
  exact this
theorem walkN_eq (o : List UInt8) (leaf chain : Nat) (h : leaf < 18446744073709551616) (ho : o.length ≤ 1048576) (n : Nat) : ∀ (a : Nat) (x : List UInt8), x.length ≤ 1048576 → walkN (o.map UInt8.toNat) leaf chain n a (x.map UInt8.toNat) = (Wo.walk o leaf chain a x n).map UInt8.toNat := by
  induction n with
  | zero => intro a x _; rw [walkN_zero, Wo.walk]
  | succ n ih =>
    intro a x hx
    rw [walkN_step, forceL_eq, force_eq, stepN_eq o leaf chain a x h ho hx, ih (a + 1) _ (by rw [Wo.step_length]; decide)]
    have := Wo.walk_add o leaf chain a x 1 n
    rw [show Wo.walk o leaf chain a x 1 = Wo.step o leaf chain a x by rw [Wo.walk, Wo.walk, Nat.add_zero]] at this
    rw [this, Nat.add_comm 1 n]
noncomputable def secretN (seed : List Nat) (leaf chain : Nat) : List Nat := tagN 1 [seed, placeN leaf chain 0]
theorem secretN_eq (seed : List UInt8) (leaf chain : Nat) (h : leaf < 18446744073709551616) (hs : seed.length ≤ 1048576) : secretN (seed.map UInt8.toNat) leaf chain = (Wo.secret seed leaf chain).map UInt8.toNat := by
  have := tagN_eq 1 [seed, Wo.place leaf chain 0] (by simp [Wo.place_length]; omega)
  unfold secretN
  rw [placeN_eq leaf chain 0 h]
  exact this
/-- so many chains, from number i on: each from a start, so many steps -/
noncomputable def chainsN (o : List Nat) (leaf : Nat) (start : Nat → List Nat) (fr len : Nat → Nat) (n : Nat) : Nat → List (List Nat) → List (List Nat) :=
  Nat.rec (fun _ acc => acc) (fun _ ih i acc => force (len i) fun m => force (fr i) fun f => forceL (start i) fun s => forceL (walkN o leaf i m f s) fun y => force (i + 1) fun j => ih j (acc ++ [y])) n
theorem chainsN_zero (o : List Nat) (leaf : Nat) (start : Nat → List Nat) (fr len : Nat → Nat) (i : Nat) (acc : List (List Nat)) : chainsN o leaf start fr len 0 i acc = acc := rfl
theorem chainsN_step (o : List Nat) (leaf : Nat) (start : Nat → List Nat) (fr len : Nat → Nat) (n i : Nat) (acc : List (List Nat)) : chainsN o leaf start fr len (n + 1) i acc =
    force (len i) fun m => force (fr i) fun f => forceL (start i) fun s => forceL (walkN o leaf i m f s) fun y => force (i + 1) fun j => chainsN o leaf start fr len n j (acc ++ [y]) := rfl
attribute [local irreducible] chainsN
theorem chainsN_eq (o : List UInt8) (leaf : Nat) (h : leaf < 18446744073709551616) (ho : o.length ≤ 1048576) (start : Nat → List UInt8) (hst : ∀ i, (start i).length ≤ 1048576) (startN : Nat → List Nat) (hN : ∀ i, startN i = (start i).map UInt8.toNat) (fr len : Nat → Nat) (n : Nat) :
    ∀ (i : Nat) (acc : List (List UInt8)), chainsN (o.map UInt8.toNat) leaf startN fr len n i (acc.map (List.map UInt8.toNat)) = (acc ++ (List.range' i n).map fun i => Wo.walk o leaf i (fr i) (start i) (len i)).map (List.map UInt8.toNat) := by
  induction n with
  | zero => intro i acc; rw [chainsN_zero, List.range'_zero, List.map_nil, List.append_nil]
  | succ n ih =>
    intro i acc
    rw [chainsN_step, force_eq, force_eq, forceL_eq, forceL_eq, force_eq, hN, walkN_eq o leaf i h ho _ _ _ (hst i)]
    have e : acc.map (List.map UInt8.toNat) ++ [(Wo.walk o leaf i (fr i) (start i) (len i)).map UInt8.toNat] = (acc ++ [Wo.walk o leaf i (fr i) (start i) (len i)]).map (List.map UInt8.toNat) := by rw [List.map_append]; rfl
    rw [e, ih (i + 1) _, List.range'_succ, List.map_cons, List.append_assoc]
    rfl
noncomputable def pubOfN (o : List Nat) (leaf : Nat) (e : List (List Nat)) : List Nat := tagN 4 ([o, placeN leaf 0 0] ++ e)
theorem pubOfN_eq (o : List UInt8) (leaf : Nat) (h : leaf < 18446744073709551616) (e : List (List UInt8)) (hl : o.length + e.flatten.length + 4 * e.length < 1152921504606846000) : pubOfN (o.map UInt8.toNat) leaf (e.map (List.map UInt8.toNat)) = (Wo.publicOf o leaf e).map UInt8.toNat := by
  have := tagN_eq 4 ([o, Wo.place leaf 0 0] ++ e) (by simp only [List.flatten_append, List.length_append, List.flatten_cons, List.flatten_nil, Wo.place_length, List.length_nil, List.length_cons]; omega)
  unfold pubOfN
  rw [placeN_eq leaf 0 0 h]
  rw [List.map_append] at this
  exact this
end SN

end Go.Proofs.YtlopnfgacopkbaaDoor
