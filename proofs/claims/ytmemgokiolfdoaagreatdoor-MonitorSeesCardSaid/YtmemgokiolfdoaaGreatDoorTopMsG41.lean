/- A part of the proof. -/
import Derived.Test.YtmemgokiolfdoaaGreatDoorTopMsG13
import Derived.Test.YtmemgokiolfdoaaGreatDoorTopMsG20
set_option maxRecDepth 100000
set_option maxHeartbeats 1000000
set_option linter.unusedSimpArgs false
set_option linter.unusedVariables false
namespace Go.Proofs.YtmemgokiolfdoaaGreatDoor
open Go Go.Fw Go.Proofs.Tryz
attribute [local irreducible] SN.tagN Sha.tagged
namespace Tn
open SN (forceL qBG)
abbrev nat(l:xA):List Nat:=l.map UInt8.toNat
def qZf(s:List Nat):Prop:=s≠ []∧s.take 1= [1]
instance (s:List Nat):Decidable (qZf s):=by unfold qZf;infer_instance
def small(l:List Sm.PR):Prop:= ∀p∈l,p.1.length≤1000∧p.2.length≤1000
end Tn
end Go.Proofs.YtmemgokiolfdoaaGreatDoor