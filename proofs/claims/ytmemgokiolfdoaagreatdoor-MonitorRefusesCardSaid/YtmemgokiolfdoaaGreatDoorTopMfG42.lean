/- A part of the proof. -/
import Derived.Test.YtmemgokiolfdoaaGreatDoorTopMfG30
set_option maxRecDepth 100000
set_option maxHeartbeats 1000000
set_option linter.unusedSimpArgs false
set_option linter.unusedVariables false
namespace Go.Proofs.YtmemgokiolfdoaaGreatDoor
attribute [local irreducible] SN.tagN Sha.tagged
theorem qT8:SM.natL (Xm.leaves [97,117,100,105,116,111,114] 8)= [[35,126,73,222,98,173,179,245,51,171,249,141,145,164,61,115],[144,195,155,8,116,122,3,76,110,176,3,90,120,38,9,145],[115,154,218,253,144,82,252,111,66,96,180,123,42,16,71,68],[164,111,185,22,112,205,76,202,216,67,228,250,52,180,84,136],[207,27,104,126,192,100,70,66,102,30,178,98,29,35,195,210],[99,188,11,4,138,92,156,42,164,13,187,247,149,192,47,221],[151,2,18,200,114,94,21,86,116,155,101,199,32,150,157,6],[20,17,2,121,89,144,246,15,243,229,102,104,191,222,218,34]]:=by
 rw [←SM.leavesN_eq 8 (by decide) [97,117,100,105,116,111,114] (by decide)]
 decide+kernel
theorem qYZ:(Xm.root [97,117,100,105,116,111,114] 3).map UInt8.toNat= [252,156,92,255,137,207,28,231,230,225,150,133,249,17,150,1]:=by
 rw [←SM.rootN_eq 3 (by decide) [97,117,100,105,116,111,114] (by decide)]
 unfold SM.rootN
 rw [SM.leavesN_eq 8 (by decide) [97,117,100,105,116,111,114] (by decide),show Xm.leaves [97,117,100,105,116,111,114] (2^3)=Xm.leaves [97,117,100,105,116,111,114] 8 from rfl,qT8]
 decide+kernel
end Go.Proofs.YtmemgokiolfdoaaGreatDoor