/-
  DERIVED. GIVEN WITH THE SEED: THE CARDS: each row of YtcgcjaflllmlpaaGreatDoorRows.lean that lists a variable, with what it lists TIED to the program's text (the seventh form; the later family's looks); each row that meets fmt, with fmt's text TOLD by the authors' own Lean function (tested against real Go, not proved from fmt's source: count such statements apart). THE CARD IS WHAT COUNTS. Prove the row's statement (the work); the ties are given (YtcgcjaflllmlpaaGreatDoorTie.lean); close each card by the builder's one call (the guide's Derived/Test/ToyasCard.lean, 'card_holds'). Laid BY PROGRAM, IN A SANDBOX (cutbox-door.mjs). By AI agents, Wed Nov 11 2026. No macro, syntax, notation, axiom, sorry.
-/
import Derived.Test.YtcgcjaflllmlpaaGreatDoorRows
import GoSem.ClaimSeven
namespace Go.Proofs.YtcgcjaflllmlpaaGreatDoor
namespace Rows

/-- THE TIED CARD OF 'plumboblaw26.ClientChecks'. -/
def clientChecksCard : Claim7 := { stood := { row := clientChecksRow, standIns := [], harness := (true, "6bf734084cfcc9c49df3028091549a4253b8def6858db4e8bfde503289836912"), looks := true }, kinds := [], alts := [], laidByText := true, laidKinds := [.data, .data, .data, .pinned], laidTests := true, laidLooks := .later }
def ClientChecksCardSaid : Prop := Claim7.holds Tryz.pinned (.plain (OpenSpec.ofChange clientChecksSpec)) clientChecksCard

/-- THE TIED CARD OF 'plumboblaw26.ClientForks'. -/
def clientForksCard : Claim7 := { stood := { row := clientForksRow, standIns := [], harness := (true, "6bf734084cfcc9c49df3028091549a4253b8def6858db4e8bfde503289836912"), looks := true }, kinds := [], alts := [], laidByText := true, laidKinds := [.data, .data, .data, .pinned], laidTests := true, laidLooks := .later }
def ClientForksCardSaid : Prop := Claim7.holds Tryz.pinned (.plain (OpenSpec.ofChange clientForksSpec)) clientForksCard

/-- THE SECOND FORM's CARD OF 'plumboblaw26.ClientChecks'. -/
def clientChecksUptoCard : Claim7 := { stood := { row := clientChecksUptoRow, standIns := [], harness := (true, "6bf734084cfcc9c49df3028091549a4253b8def6858db4e8bfde503289836912"), looks := true }, kinds := [], alts := [], laidByText := true, laidKinds := [.data, .data, .data, .pinned], laidTests := true, laidLooks := .later }
def ClientChecksUptoCardSaid : Prop := Claim7.holds Tryz.pinned (.plain (OpenSpec.upto clientChecksSpec)) clientChecksUptoCard

/-- THE SECOND FORM's CARD OF 'plumboblaw26.ClientForks'. -/
def clientForksUptoCard : Claim7 := { stood := { row := clientForksUptoRow, standIns := [], harness := (true, "6bf734084cfcc9c49df3028091549a4253b8def6858db4e8bfde503289836912"), looks := true }, kinds := [], alts := [], laidByText := true, laidKinds := [.data, .data, .data, .pinned], laidTests := true, laidLooks := .later }
def ClientForksUptoCardSaid : Prop := Claim7.holds Tryz.pinned (.plain (OpenSpec.upto clientForksSpec)) clientForksUptoCard
end Rows
end Go.Proofs.YtcgcjaflllmlpaaGreatDoor
