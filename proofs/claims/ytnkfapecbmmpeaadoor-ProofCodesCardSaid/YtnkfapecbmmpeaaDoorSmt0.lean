/- A part of the proof: contracts of functions of the program, each for every state of the heaps that it names. -/
import Derived.Test.YtnkfapecbmmpeaaDoorSmp
set_option linter.unusedSimpArgs false
set_option linter.unusedVariables false
namespace Go.Proofs.YtnkfapecbmmpeaaDoor
open Go Go.Fw
set_option maxRecDepth 100000
set_option maxHeartbeats 1000000
structure Pr where
  k : List UInt8
  v : List UInt8
  deriving DecidableEq
def Pr.cells (x : Pr) : List Value := [Str (x.k), Str (x.v)]
def noPr : Pr := ⟨[], []⟩
def prsV (l : List Pr) : List (List Value) := l.map Pr.cells
theorem prsV_get {l : List Pr} {k : Nat} (h : k < l.length) : (prsV l)[k]? = some (l.getD k noPr).cells := by
  unfold prsV
  rw [List.getElem?_map, getSome noPr h]; rfl
theorem prsV_len (l : List Pr) : (prsV l).length = l.length := by simp [prsV]
theorem prsV_app (a b : List Pr) : prsV (a ++ b) = prsV a ++ prsV b := by simp [prsV]
theorem prsV_snoc (a : List Pr) (x : Pr) : prsV (a ++ [x]) = prsV a ++ [x.cells] := by simp [prsV]
theorem one_prs (a : List Pr) : (prsV a).all (fun x => x.all Value.oneCell') = true := one_map Pr.cells (fun _ => rfl) a
theorem prsV_take (l : List Pr) (k : Nat) : (prsV l).take k = prsV (l.take k) := by simp [prsV]
theorem prsV_drop (l : List Pr) (k : Nat) : (prsV l).drop k = prsV (l.drop k) := by simp [prsV]
theorem prsV_set (l : List Pr) (k : Nat) (x : Pr) : (prsV l).set k x.cells = prsV (l.set k x) := by simp [prsV, List.map_set]

def toP (p : Pr) : Sm.PR := (p.k, p.v)
abbrev ssM (l : List Sm.PR) : MP := l.map fun p => (p.1, Str p.2)
theorem getM_ss : ∀ (l : List Sm.PR) (k : List UInt8), getM (ssM l) k = (Sm.getP l k).map Str
  | [], _ => rfl
  | p :: r, k => by
    show (if p.1 = k then some (Str p.2) else getM (ssM r) k) = _
    rw [Sm.getP]
    by_cases h : p.1 = k
    · rw [if_pos h, if_pos h]; rfl
    · rw [if_neg h, if_neg h]; exact getM_ss r k
theorem putM_ss : ∀ (l : List Sm.PR) (k v : List UInt8), putM (ssM l) k (Str v) = ssM (Sm.putP l k v)
  | [], _, _ => rfl
  | p :: r, k, v => by
    show (if p.1 = k then (k, Str v) :: ssM r else (p.1, Str p.2) :: putM (ssM r) k (Str v)) = _
    rw [Sm.putP]
    by_cases h : p.1 = k
    · rw [if_pos h, if_pos h]; rfl
    · rw [if_neg h, if_neg h, putM_ss r k v]; rfl
theorem getD_ss (o : Option (List UInt8)) : (o.map Str).getD (Str []) = Str (o.getD []) := by cases o <;> rfl
/-- a tree: its struct, and its map -/
def TreeA (m : Hp) (g : Nat) (l : List Sm.PR) : Prop := ∃ gm, Cells m ⟨g, 0, none⟩ [.map (some gm)] ∧ MapAt m gm (ssM l)
def TreeS (m : Hp) (g : Nat) (l : List Sm.PR) : Prop := ∃ gm mm, m = U [blk g [.map (some gm)] 95, mm] ∧ Dj (blk g [.map (some gm)] 95) mm ∧ MapS mm gm (ssM l)
theorem TreeA.mono {m m' : Hp} {g : Nat} {l : List Sm.PR} (h : TreeA m g l) (hl : Le m m') : TreeA m' g l := by
  obtain ⟨gm, h1, h2⟩ := h
  exact ⟨gm, h1.mono hl, h2.mono hl⟩
theorem TreeS.at {m : Hp} {g : Nat} {l : List Sm.PR} (h : TreeS m g l) : TreeA m g l := by
  obtain ⟨gm, mm, rfl, hd, h2⟩ := h
  have hdd : Djs [blk g [.map (some gm)] 95, mm] := Djs_iff.2 (by simpa using hd)
  exact ⟨gm, Cells.blk0.mono (le_U hdd (.head _)), h2.at.mono (le_U hdd (.tail _ (.head _)))⟩

end Go.Proofs.YtnkfapecbmmpeaaDoor
