/- A part of the proof: contracts of functions of the program, each for every state of the heaps that it names. -/
import Derived.Test.YtnkfapecbmmpeaaDoorSmt6
set_option linter.unusedSimpArgs false
set_option linter.unusedVariables false
namespace Go.Proofs.YtnkfapecbmmpeaaDoor
open Go Go.Fw
set_option maxRecDepth 100000
set_option maxHeartbeats 1000000
structure Pu where
  a : UInt8
  b : UInt8
  v : List UInt8
  deriving DecidableEq
def Pu.cells (x : Pu) : List Value := [B8 (x.a), B8 (x.b), Str (x.v)]
def noPu : Pu := ⟨0, 0, []⟩
def putsV (l : List Pu) : List (List Value) := l.map Pu.cells
theorem putsV_get {l : List Pu} {k : Nat} (h : k < l.length) : (putsV l)[k]? = some (l.getD k noPu).cells := by
  unfold putsV
  rw [List.getElem?_map, getSome noPu h]; rfl
theorem putsV_len (l : List Pu) : (putsV l).length = l.length := by simp [putsV]
theorem putsV_app (a b : List Pu) : putsV (a ++ b) = putsV a ++ putsV b := by simp [putsV]
theorem putsV_snoc (a : List Pu) (x : Pu) : putsV (a ++ [x]) = putsV a ++ [x.cells] := by simp [putsV]
theorem one_puts (a : List Pu) : (putsV a).all (fun x => x.all Value.oneCell') = true := one_map Pu.cells (fun _ => rfl) a
theorem putsV_take (l : List Pu) (k : Nat) : (putsV l).take k = putsV (l.take k) := by simp [putsV]
theorem putsV_drop (l : List Pu) (k : Nat) : (putsV l).drop k = putsV (l.drop k) := by simp [putsV]
theorem putsV_set (l : List Pu) (k : Nat) (x : Pu) : (putsV l).set k x.cells = putsV (l.set k x) := by simp [putsV, List.map_set]

theorem fine_one (k v : List UInt8) (hk : k.length = 16) (hv : v.length ≤ 1000000) : Fine [(k, v)] := ⟨by unfold Sm.Once; simp, by simpa using hk, by simpa using hv, by simp⟩
theorem sp13 : Sm.putP [] (keyK 1 2) [118] = [(keyK 1 2, [118])] := rfl
theorem sp13g : Sm.getP [(keyK 1 2, [118])] (keyK 1 2) = some [118] := by rw [Sm.getP, if_pos rfl]

end Go.Proofs.YtnkfapecbmmpeaaDoor
