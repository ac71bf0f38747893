/- A part of the proof: contracts of functions of the program, each for every state of the heaps that it names. -/
import Derived.Test.YtnkfapecbmmpeaaDoorShaX
import Derived.Test.YtnkfapecbmmpeaaDoorFwU
import Derived.Test.YtnkfapecbmmpeaaDoorFwS
import Derived.Test.YtnkfapecbmmpeaaDoorR3
set_option linter.unusedSimpArgs false
set_option linter.unusedVariables false
namespace Go.Proofs.YtnkfapecbmmpeaaDoor
open Go Go.Fw
set_option maxRecDepth 100000
set_option maxHeartbeats 1000000
abbrev NW (x : UInt32) : Value := N64 x.toNat
def numsV (l : List Nat) : List (List Value) := l.map fun x => [N64 x]
section
variable {P : Program} {env : Env} {rs : List Hp} {o : Oper} {t t' : TypeId} {x y : Operand} {a b : UInt32}
end
abbrev nws (l : List UInt32) : List Nat := l.map UInt32.toNat
attribute [local irreducible] Sha.rnds Sha.sched Sha.mix Sha.rotr R3.roots Sha.exts

end Go.Proofs.YtnkfapecbmmpeaaDoor
