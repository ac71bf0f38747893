/- A part of the proof. -/
import Derived.Test.YtmemgokiolfdoaaGreatDoorTopMsG30
set_option maxRecDepth 100000
set_option maxHeartbeats 1000000
set_option linter.unusedSimpArgs false
set_option linter.unusedVariables false
namespace Go.Proofs.YtmemgokiolfdoaaGreatDoor
attribute [local irreducible] SN.tagN Sha.tagged
theorem qUc:SM.natL (Xm.leaves [111,119,110,101,114,97] 1)= [[2,125,178,249,55,105,152,37,172,19,169,25,194,138,67,152]]:=by
 rw [←SM.leavesN_eq 1 (by decide) [111,119,110,101,114,97] (by decide)]
 decide+kernel
theorem qY5:(Xm.root [111,119,110,101,114,97] 0).map UInt8.toNat= [2,125,178,249,55,105,152,37,172,19,169,25,194,138,67,152]:=by
 rw [←SM.rootN_eq 0 (by decide) [111,119,110,101,114,97] (by decide)]
 unfold SM.rootN
 rw [SM.leavesN_eq 1 (by decide) [111,119,110,101,114,97] (by decide),show Xm.leaves [111,119,110,101,114,97] (2^0)=Xm.leaves [111,119,110,101,114,97] 1 from rfl,qUc]
 decide+kernel
theorem qUb:SM.natL (Xm.leaves [111,119,110,101,114,98] 1)= [[213,120,234,230,77,228,239,112,195,29,147,246,251,32,69,134]]:=by
 rw [←SM.leavesN_eq 1 (by decide) [111,119,110,101,114,98] (by decide)]
 decide+kernel
theorem qY4:(Xm.root [111,119,110,101,114,98] 0).map UInt8.toNat= [213,120,234,230,77,228,239,112,195,29,147,246,251,32,69,134]:=by
 rw [←SM.rootN_eq 0 (by decide) [111,119,110,101,114,98] (by decide)]
 unfold SM.rootN
 rw [SM.leavesN_eq 1 (by decide) [111,119,110,101,114,98] (by decide),show Xm.leaves [111,119,110,101,114,98] (2^0)=Xm.leaves [111,119,110,101,114,98] 1 from rfl,qUb]
 decide+kernel
theorem qUa:SM.natL (Xm.leaves [111,119,110,101,114,99] 1)= [[116,75,226,174,130,158,160,6,49,46,88,105,23,123,176,82]]:=by
 rw [←SM.leavesN_eq 1 (by decide) [111,119,110,101,114,99] (by decide)]
 decide+kernel
theorem qY3:(Xm.root [111,119,110,101,114,99] 0).map UInt8.toNat= [116,75,226,174,130,158,160,6,49,46,88,105,23,123,176,82]:=by
 rw [←SM.rootN_eq 0 (by decide) [111,119,110,101,114,99] (by decide)]
 unfold SM.rootN
 rw [SM.leavesN_eq 1 (by decide) [111,119,110,101,114,99] (by decide),show Xm.leaves [111,119,110,101,114,99] (2^0)=Xm.leaves [111,119,110,101,114,99] 1 from rfl,qUa]
 decide+kernel
theorem qUZ:SM.natL (Xm.leaves [111,119,110,101,114,100] 1)= [[85,28,181,100,253,134,151,203,180,141,254,165,107,16,14,222]]:=by
 rw [←SM.leavesN_eq 1 (by decide) [111,119,110,101,114,100] (by decide)]
 decide+kernel
theorem qY2:(Xm.root [111,119,110,101,114,100] 0).map UInt8.toNat= [85,28,181,100,253,134,151,203,180,141,254,165,107,16,14,222]:=by
 rw [←SM.rootN_eq 0 (by decide) [111,119,110,101,114,100] (by decide)]
 unfold SM.rootN
 rw [SM.leavesN_eq 1 (by decide) [111,119,110,101,114,100] (by decide),show Xm.leaves [111,119,110,101,114,100] (2^0)=Xm.leaves [111,119,110,101,114,100] 1 from rfl,qUZ]
 decide+kernel
end Go.Proofs.YtmemgokiolfdoaaGreatDoor