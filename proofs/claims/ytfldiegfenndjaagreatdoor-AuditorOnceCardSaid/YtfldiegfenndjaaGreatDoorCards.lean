/-
  DERIVED. GIVEN WITH THE SEED: THE CARDS: each row of YtfldiegfenndjaaGreatDoorRows.lean that lists a variable, with what it lists TIED to the program's text (the seventh form; the later family's looks); each row that meets fmt, with fmt's text TOLD by the authors' own Lean function (tested against real Go, not proved from fmt's source: count such statements apart). THE CARD IS WHAT COUNTS. Prove the row's statement (the work); the ties are given (YtfldiegfenndjaaGreatDoorTie.lean); close each card by the builder's one call (the guide's Derived/Test/ToyasCard.lean, 'card_holds'). Laid BY PROGRAM, IN A SANDBOX (cutbox-door.mjs). By AI agents, Wed Nov 11 2026. No macro, syntax, notation, axiom, sorry.
-/
import Derived.Test.YtfldiegfenndjaaGreatDoorRows
import GoSem.ClaimSeven
namespace Go.Proofs.YtfldiegfenndjaaGreatDoor
namespace Rows

/-- THE TIED CARD OF 'plumboblaw23.CoverCounts'. -/
def coverCountsCard : Claim7 := { stood := { row := coverCountsRow, standIns := [], harness := (true, "2b13900b2c8c7ed414ea38a094f6a7b221f199d007e78e81390aec37fc873eaf"), looks := true }, kinds := [], alts := [], laidByText := true, laidKinds := [.data, .data, .data, .pinned], laidTests := true, laidLooks := .later }
def CoverCountsCardSaid : Prop := Claim7.holds Tryz.pinned (.plain (OpenSpec.ofChange coverCountsSpec)) coverCountsCard

/-- THE TIED CARD OF 'plumboblaw23.CoverVotes'. -/
def coverVotesCard : Claim7 := { stood := { row := coverVotesRow, standIns := [], harness := (true, "2b13900b2c8c7ed414ea38a094f6a7b221f199d007e78e81390aec37fc873eaf"), looks := true }, kinds := [], alts := [], laidByText := true, laidKinds := [.data, .data, .data, .pinned], laidTests := true, laidLooks := .later }
def CoverVotesCardSaid : Prop := Claim7.holds Tryz.pinned (.plain (OpenSpec.ofChange coverVotesSpec)) coverVotesCard

/-- THE TIED CARD OF 'plumboblaw25.AuditorChecks'. -/
def auditorChecksCard : Claim7 := { stood := { row := auditorChecksRow, standIns := [], harness := (true, "2b13900b2c8c7ed414ea38a094f6a7b221f199d007e78e81390aec37fc873eaf"), looks := true }, kinds := [], alts := [], laidByText := true, laidKinds := [.data], laidTests := true, laidLooks := .later }
def AuditorChecksCardSaid : Prop := Claim7.holds Tryz.pinned (.plain (OpenSpec.ofChange auditorChecksSpec)) auditorChecksCard

/-- THE TIED CARD OF 'plumboblaw25.AuditorOnce'. -/
def auditorOnceCard : Claim7 := { stood := { row := auditorOnceRow, standIns := [], harness := (true, "2b13900b2c8c7ed414ea38a094f6a7b221f199d007e78e81390aec37fc873eaf"), looks := true }, kinds := [], alts := [], laidByText := true, laidKinds := [.data], laidTests := true, laidLooks := .later }
def AuditorOnceCardSaid : Prop := Claim7.holds Tryz.pinned (.plain (OpenSpec.ofChange auditorOnceSpec)) auditorOnceCard

/-- THE SECOND FORM's CARD OF 'plumboblaw23.CoverCounts'. -/
def coverCountsUptoCard : Claim7 := { stood := { row := coverCountsUptoRow, standIns := [], harness := (true, "2b13900b2c8c7ed414ea38a094f6a7b221f199d007e78e81390aec37fc873eaf"), looks := true }, kinds := [], alts := [], laidByText := true, laidKinds := [.data, .data, .data, .pinned], laidTests := true, laidLooks := .later }
def CoverCountsUptoCardSaid : Prop := Claim7.holds Tryz.pinned (.plain (OpenSpec.upto coverCountsSpec)) coverCountsUptoCard

/-- THE SECOND FORM's CARD OF 'plumboblaw23.CoverVotes'. -/
def coverVotesUptoCard : Claim7 := { stood := { row := coverVotesUptoRow, standIns := [], harness := (true, "2b13900b2c8c7ed414ea38a094f6a7b221f199d007e78e81390aec37fc873eaf"), looks := true }, kinds := [], alts := [], laidByText := true, laidKinds := [.data, .data, .data, .pinned], laidTests := true, laidLooks := .later }
def CoverVotesUptoCardSaid : Prop := Claim7.holds Tryz.pinned (.plain (OpenSpec.upto coverVotesSpec)) coverVotesUptoCard

/-- THE SECOND FORM's CARD OF 'plumboblaw25.AuditorChecks'. -/
def auditorChecksUptoCard : Claim7 := { stood := { row := auditorChecksUptoRow, standIns := [], harness := (true, "2b13900b2c8c7ed414ea38a094f6a7b221f199d007e78e81390aec37fc873eaf"), looks := true }, kinds := [], alts := [], laidByText := true, laidKinds := [.data], laidTests := true, laidLooks := .later }
def AuditorChecksUptoCardSaid : Prop := Claim7.holds Tryz.pinned (.plain (OpenSpec.upto auditorChecksSpec)) auditorChecksUptoCard

/-- THE SECOND FORM's CARD OF 'plumboblaw25.AuditorOnce'. -/
def auditorOnceUptoCard : Claim7 := { stood := { row := auditorOnceUptoRow, standIns := [], harness := (true, "2b13900b2c8c7ed414ea38a094f6a7b221f199d007e78e81390aec37fc873eaf"), looks := true }, kinds := [], alts := [], laidByText := true, laidKinds := [.data], laidTests := true, laidLooks := .later }
def AuditorOnceUptoCardSaid : Prop := Claim7.holds Tryz.pinned (.plain (OpenSpec.upto auditorOnceSpec)) auditorOnceUptoCard
end Rows
end Go.Proofs.YtfldiegfenndjaaGreatDoor
