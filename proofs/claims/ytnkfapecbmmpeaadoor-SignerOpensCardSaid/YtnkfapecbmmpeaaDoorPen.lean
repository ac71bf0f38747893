/- A part of the proof: contracts of functions of the program, each for every state of the heaps that it names. -/
import Derived.Test.YtnkfapecbmmpeaaDoorOct2
set_option linter.unusedSimpArgs false
set_option linter.unusedVariables false
namespace Go.Proofs.YtnkfapecbmmpeaaDoor
open Go Go.Fw
set_option maxRecDepth 100000
set_option maxHeartbeats 1000000
theorem ent56 : Enters Tryd.prog 56 := Enters.of Tryd.func56 rfl (by kernel_rfl)

def pubOk (o r : List UInt8) (h : Int) : Prop := 0 ≤ h ∧ h ≤ 6 ∧ o.length = 16 ∧ r.length = 16
instance (o r : List UInt8) (h : Int) : Decidable (pubOk o r h) := by unfold pubOk; infer_instance
def pubEnc (o r : List UInt8) (h : Int) : List UInt8 := if pubOk o r h then o ++ r ++ [UInt8.ofNat h.toNat] else []
def pubErr (o r : List UInt8) (h : Int) : Int := if pubOk o r h then 0 else 10
def pbad (o r : List UInt8) : Int := fbad (okF r 16) 10 (fbad (okF o 16) 10 0)
def pbs (o r : List UInt8) : List UInt8 := wfix r 16 (wfix o 16 [] 0) (fbad (okF o 16) 10 0)
theorem eqPub (d : Nat) (o r o' r' : List UInt8) (h h' : Int) (w : World) : (Op.equalIn (d + 2) 32 (.agg #[Str o, Str r, I h]) (.agg #[Str o', Str r', I h'])).run Tryd.prog w = .ok (decide (o = o' ∧ r = r' ∧ h = h')) w := by
  have u3 := Tryd.underlying3
  have a3 := Tryd.isAgg3
  have us := Tryd.underlying9
  have ag := Tryd.isAgg9
  have hS : Tryd.prog.underlying 32 = some (.struct (Tryd.prog.fieldsOf 32)) := by kernel_rfl
  have hp : Tryd.prog.stoodInHeld 32 = false := by kernel_rfl
  rw [show d + 2 = (d + 1) + 1 from rfl, run_equalIn_struct w (d + 1) 32 _ _ hS hp]
  simp only [Program.fieldsOf, Tryd.underlying32]
  have hi : ∀ (a b : Int) (w : World), (Op.equalIn (d + 1) 3 (.int .i64 a) (.int .i64 b)).run Tryd.prog w = .ok (a == b) w := fun a b w => run_equalIn_int w d 3 .i64 .i64 a b u3
  have hs : ∀ (a b : List UInt8) (w : World), (Op.equalIn (d + 1) 9 (Str a) (Str b)).run Tryd.prog w = .ok (decide (a = b)) w := fun a b w => by rw [run_equalIn_string w d 9 _ _ us, bytes_beq]
  simp only [Op.eqFields]
  simp [part, a3, ag, hi, hs]
  by_cases h1 : o = o' <;> by_cases h2 : r = r' <;> by_cases h3 : h = h' <;> simp [h1, h2, h3]

end Go.Proofs.YtnkfapecbmmpeaaDoor
