/- A part of the proof: contracts of functions of the program, each for every state of the heaps that it names. -/
import Derived.Test.YtlopnfgacopkbaaDoorSNW
import Derived.Test.YtlopnfgacopkbaaDoorXmss
set_option linter.unusedSimpArgs false
set_option linter.unusedVariables false
namespace Go.Proofs.YtlopnfgacopkbaaDoor
set_option maxRecDepth 100000
set_option maxHeartbeats 1000000

attribute [local irreducible] SN.tagN SN.walkN SN.chainsN SN.pubOfN SN.secretN Sha.tagged
namespace Xe
def O : List UInt8 := [53, 39, 210, 26, 249, 98, 105, 52, 143, 157, 123, 1, 86, 151, 222, 36]
def ON : List Nat := [53, 39, 210, 26, 249, 98, 105, 52, 143, 157, 123, 1, 86, 151, 222, 36]
theorem O_map : O.map UInt8.toNat = ON := by decide
theorem lit {a b : List UInt8} {n : List Nat} (h1 : a.map UInt8.toNat = n) (h2 : b.map UInt8.toNat = n) : a = b := SN.of_toNat (h1.trans h2.symm)
theorem opn_lit : Wo.opn [115, 101, 101, 100] = O := by
  have h := SN.tagN_eq 3 [[115, 101, 101, 100]] (by decide)
  have e : SN.tagN 3 [[115, 101, 101, 100]] = ON := by decide +kernel
  have h2 : SN.tagN 3 [[115, 101, 101, 100]] = (Sha.tagged 3 [[115, 101, 101, 100]]).map UInt8.toNat := h
  exact lit (show (Sha.tagged 3 [[115, 101, 101, 100]]).map UInt8.toNat = ON from h2.symm.trans e) O_map
theorem secret_lit (leaf i : Nat) (h : leaf < 18446744073709551616) : SN.secretN [115, 101, 101, 100] leaf i = (Wo.secret [115, 101, 101, 100] leaf i).map UInt8.toNat := SN.secretN_eq [115, 101, 101, 100] leaf i h (by decide)
theorem tops_lit (leaf : Nat) (h : leaf < 18446744073709551616) : SN.chainsN ON leaf (fun i => SN.secretN [115, 101, 101, 100] leaf i) (fun _ => 0) (fun _ => 15) 35 0 [] = (Wo.tops [115, 101, 101, 100] leaf 35).map (List.map UInt8.toNat) := by
  have := SN.chainsN_eq O leaf h (by decide) (fun i => Wo.secret [115, 101, 101, 100] leaf i) (fun i => by rw [Wo.secret_length]; decide) (fun i => SN.secretN [115, 101, 101, 100] leaf i) (fun i => secret_lit leaf i h) (fun _ => 0) (fun _ => 15) 35 0 []
  rw [O_map, List.nil_append, ← List.range_eq_range'] at this
  unfold Wo.tops
  rw [opn_lit]
  exact this
theorem tops_16 (leaf : Nat) : (Wo.tops [115, 101, 101, 100] leaf 35).flatten.length ≤ 16 * 35 := by
  have := Mk.flat_small (w := 16) (Wo.tops_small [115, 101, 101, 100] leaf 35)
  rwa [Wo.tops_length] at this
theorem pub_lit (leaf : Nat) (h : leaf < 18446744073709551616) : SN.pubOfN ON leaf (SN.chainsN ON leaf (fun i => SN.secretN [115, 101, 101, 100] leaf i) (fun _ => 0) (fun _ => 15) 35 0 []) = (Wo.pub [115, 101, 101, 100] leaf).map UInt8.toNat := by
  have h2 := tops_16 leaf
  have h3 := Wo.tops_length [115, 101, 101, 100] leaf 35
  have := SN.pubOfN_eq O leaf h (Wo.tops [115, 101, 101, 100] leaf 35) (by rw [h3]; show 16 + _ + _ < _; omega)
  rw [tops_lit leaf h, ← O_map, this]
  unfold Wo.pub
  rw [opn_lit]
end Xe

end Go.Proofs.YtlopnfgacopkbaaDoor
