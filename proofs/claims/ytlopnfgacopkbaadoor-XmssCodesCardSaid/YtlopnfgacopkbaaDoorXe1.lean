/- A part of the proof: contracts of functions of the program, each for every state of the heaps that it names. -/
import Derived.Test.YtlopnfgacopkbaaDoorXe
set_option linter.unusedSimpArgs false
set_option linter.unusedVariables false
namespace Go.Proofs.YtlopnfgacopkbaaDoor
set_option maxRecDepth 100000
set_option maxHeartbeats 1000000

namespace Xe
def P1 : List UInt8 := [202, 40, 201, 125, 24, 254, 178, 128, 90, 28, 124, 67, 140, 69, 38, 40]
theorem P1_num : SN.pubOfN ON 1 (SN.chainsN ON 1 (fun i => SN.secretN [115, 101, 101, 100] 1 i) (fun _ => 0) (fun _ => 15) 35 0 []) = [202, 40, 201, 125, 24, 254, 178, 128, 90, 28, 124, 67, 140, 69, 38, 40] := by decide +kernel
theorem P1_lit : Wo.pub [115, 101, 101, 100] 1 = P1 := lit ((pub_lit 1 (by decide)).symm.trans P1_num) (by decide)
end Xe

end Go.Proofs.YtlopnfgacopkbaaDoor
