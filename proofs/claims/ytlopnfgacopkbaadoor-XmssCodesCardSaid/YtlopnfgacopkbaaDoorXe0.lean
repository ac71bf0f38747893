/- A part of the proof: contracts of functions of the program, each for every state of the heaps that it names. -/
import Derived.Test.YtlopnfgacopkbaaDoorXe
set_option linter.unusedSimpArgs false
set_option linter.unusedVariables false
namespace Go.Proofs.YtlopnfgacopkbaaDoor
set_option maxRecDepth 100000
set_option maxHeartbeats 1000000

namespace Xe
def P0 : List UInt8 := [23, 208, 167, 136, 150, 142, 239, 238, 62, 169, 98, 21, 214, 138, 82, 31]
theorem P0_num : SN.pubOfN ON 0 (SN.chainsN ON 0 (fun i => SN.secretN [115, 101, 101, 100] 0 i) (fun _ => 0) (fun _ => 15) 35 0 []) = [23, 208, 167, 136, 150, 142, 239, 238, 62, 169, 98, 21, 214, 138, 82, 31] := by decide +kernel
theorem P0_lit : Wo.pub [115, 101, 101, 100] 0 = P0 := lit ((pub_lit 0 (by decide)).symm.trans P0_num) (by decide)
end Xe

end Go.Proofs.YtlopnfgacopkbaaDoor
