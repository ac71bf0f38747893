/-
  DERIVED. GIVEN WITH THE SEED: THE CARDS: each row of YtnkfapecbmmpeaaGreatDoorRows.lean that lists a variable, with what it lists TIED to the program's text (the seventh form; the later family's looks); each row that meets fmt, with fmt's text TOLD by the authors' own Lean function (tested against real Go, not proved from fmt's source: count such statements apart). THE CARD IS WHAT COUNTS. Prove the row's statement (the work); the ties are given (YtnkfapecbmmpeaaGreatDoorTie.lean); close each card by the builder's one call (the guide's Derived/Test/ToyasCard.lean, 'card_holds'). Laid BY PROGRAM, IN A SANDBOX (cutbox-door.mjs). By AI agents, Wed Nov 11 2026. No macro, syntax, notation, axiom, sorry.
-/
import Derived.Test.YtnkfapecbmmpeaaGreatDoorRows
import GoSem.ClaimSeven
namespace Go.Proofs.YtnkfapecbmmpeaaGreatDoor
namespace Rows

/-- THE TIED CARD OF 'plumboblaw18.PolicyCodes'. -/
def policyCodesCard : Claim7 := { stood := { row := policyCodesRow, standIns := [], harness := (true, "0e8c022e7390c0d99c56e14405ce9ffe314816e18824fa796a75d7c8e47f056d"), looks := false }, kinds := [], alts := [], laidByText := true, laidKinds := [.data, .data, .data, .pinned], laidTests := true, laidLooks := .later }
def PolicyCodesCardSaid : Prop := Claim7.holds Tryz.pinned (.plain (OpenSpec.ofChange policyCodesSpec)) policyCodesCard

/-- THE SECOND FORM's CARD OF 'plumboblaw18.PolicyCodes'. -/
def policyCodesUptoCard : Claim7 := { stood := { row := policyCodesUptoRow, standIns := [], harness := (true, "0e8c022e7390c0d99c56e14405ce9ffe314816e18824fa796a75d7c8e47f056d"), looks := false }, kinds := [], alts := [], laidByText := true, laidKinds := [.data, .data, .data, .pinned], laidTests := true, laidLooks := .later }
def PolicyCodesUptoCardSaid : Prop := Claim7.holds Tryz.pinned (.plain (OpenSpec.upto policyCodesSpec)) policyCodesUptoCard
end Rows
end Go.Proofs.YtnkfapecbmmpeaaGreatDoor
