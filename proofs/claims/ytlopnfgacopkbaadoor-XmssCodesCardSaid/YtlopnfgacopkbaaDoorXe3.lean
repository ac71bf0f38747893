/- A part of the proof: contracts of functions of the program, each for every state of the heaps that it names. -/
import Derived.Test.YtlopnfgacopkbaaDoorXe0
import Derived.Test.YtlopnfgacopkbaaDoorXe1
import Derived.Test.YtlopnfgacopkbaaDoorXe2
set_option linter.unusedSimpArgs false
set_option linter.unusedVariables false
namespace Go.Proofs.YtlopnfgacopkbaaDoor
set_option maxRecDepth 100000
set_option maxHeartbeats 1000000

namespace Xe
def NX : List UInt8 := [42, 45, 222, 96, 5, 153, 26, 222, 114, 127, 144, 101, 235, 12, 161, 174]
def NR : List UInt8 := [74, 124, 211, 173, 94, 194, 67, 167, 228, 151, 178, 91, 11, 75, 22, 216]
theorem NX_lit : Sha.tagged 5 [P0, LX] = NX := by
  have h := SN.tagN_eq 5 [P0, LX] (by decide)
  have e : SN.tagN 5 [[23, 208, 167, 136, 150, 142, 239, 238, 62, 169, 98, 21, 214, 138, 82, 31], [123, 211, 233, 38, 14, 49, 145, 135, 128, 158, 144, 234, 118, 199, 37, 119]] = [42, 45, 222, 96, 5, 153, 26, 222, 114, 127, 144, 101, 235, 12, 161, 174] := by decide +kernel
  exact lit (show (Sha.tagged 5 [P0, LX]).map UInt8.toNat = _ from (show SN.tagN 5 [[23, 208, 167, 136, 150, 142, 239, 238, 62, 169, 98, 21, 214, 138, 82, 31], [123, 211, 233, 38, 14, 49, 145, 135, 128, 158, 144, 234, 118, 199, 37, 119]] = _ from h).symm.trans e) (by decide)
theorem NR_lit : Sha.tagged 5 [P0, P1] = NR := by
  have h := SN.tagN_eq 5 [P0, P1] (by decide)
  have e : SN.tagN 5 [[23, 208, 167, 136, 150, 142, 239, 238, 62, 169, 98, 21, 214, 138, 82, 31], [202, 40, 201, 125, 24, 254, 178, 128, 90, 28, 124, 67, 140, 69, 38, 40]] = [74, 124, 211, 173, 94, 194, 67, 167, 228, 151, 178, 91, 11, 75, 22, 216] := by decide +kernel
  exact lit (show (Sha.tagged 5 [P0, P1]).map UInt8.toNat = _ from (show SN.tagN 5 [[23, 208, 167, 136, 150, 142, 239, 238, 62, 169, 98, 21, 214, 138, 82, 31], [202, 40, 201, 125, 24, 254, 178, 128, 90, 28, 124, 67, 140, 69, 38, 40]] = _ from h).symm.trans e) (by decide)
attribute [local irreducible] Sha.tagged
theorem root2 (a b : List UInt8) : Mk.root [a, b] 1 = Sha.tagged 5 [a, b] := by simp [Mk.root, Mk.lvl, Mk.above, Mk.node, List.range_succ]
theorem path2 (a b : List UInt8) : Mk.path [a, b] 1 1 = [a] := rfl
theorem climb2 (x a : List UInt8) : Mk.climb x 1 [a] = Sha.tagged 5 [a, x] := rfl
end Xe
theorem hallo : ¬ Mk.climb (Wo.publicOf (Wo.opn [115, 101, 101, 100]) 1 (Wo.ends (Wo.opn [115, 101, 101, 100]) 1 (Wo.digs (Xm.digest (Wo.opn [115, 101, 101, 100]) 1 [104, 97, 108, 108, 111])) (Wo.signs [115, 101, 101, 100] 1 (Wo.digs (Xm.digest (Wo.opn [115, 101, 101, 100]) 1 [104, 101, 108, 108, 111])) 35) 35)) 1 (Mk.path (Xm.leaves [115, 101, 101, 100] (2 ^ 1)) 1 1) = Xm.root [115, 101, 101, 100] 1 := by
  have hl : Xm.leaves [115, 101, 101, 100] (2 ^ 1) = [Xe.P0, Xe.P1] := by rw [← Xe.P0_lit, ← Xe.P1_lit]; rfl
  unfold Xm.root
  rw [hl, Xe.path2, Xe.root2, Xe.climb2, Xe.opn_lit, Xe.G1_lit, Xe.G2_lit, Xe.E1_lit, Xe.E2_lit, Xe.LX_lit, Xe.NX_lit, Xe.NR_lit]
  decide

end Go.Proofs.YtlopnfgacopkbaaDoor
