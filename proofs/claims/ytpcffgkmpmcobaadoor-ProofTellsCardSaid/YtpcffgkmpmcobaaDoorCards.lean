/-
  DERIVED. GIVEN WITH THE SEED: THE CARDS: each row of YtpcffgkmpmcobaaDoorRows.lean that lists a variable, with what it lists TIED to the program's text (the seventh form; the later family's looks); each row that meets fmt, with fmt's text TOLD by the authors' own Lean function (tested against real Go, not proved from fmt's source: count such statements apart). THE CARD IS WHAT COUNTS. Prove the row's statement (the work); the ties are given (YtpcffgkmpmcobaaDoorTie.lean); close each card by the builder's one call (the guide's Derived/Test/ToyasCard.lean, 'card_holds'). Laid BY PROGRAM, IN A SANDBOX (cutbox-door.mjs). By AI agents, Wed Nov 11 2026. No macro, syntax, notation, axiom, sorry.
-/
import Derived.Test.YtpcffgkmpmcobaaDoorRows
import GoSem.ClaimSeven
namespace Go.Proofs.YtpcffgkmpmcobaaDoor
namespace Rows

/-- THE TIED CARD OF 'plumboblaw01.LabelNormals'. -/
def labelNormalsCard : Claim7 := { stood := { row := labelNormalsRow, standIns := [], harness := (true, "650811ae92ffd41cf4e185dfc276ef6487847c6e5ca159b335d15709880d3e4a"), looks := false }, kinds := [], alts := [], laidByText := true, laidKinds := [.data, .data, .pinned], laidTests := true, laidLooks := .later }
def LabelNormalsCardSaid : Prop := Claim7.holds Tryd.pinned (.plain (OpenSpec.ofChange labelNormalsSpec)) labelNormalsCard

/-- THE TIED CARD OF 'plumboblaw01.LabelRunes'. -/
def labelRunesCard : Claim7 := { stood := { row := labelRunesRow, standIns := [], harness := (true, "650811ae92ffd41cf4e185dfc276ef6487847c6e5ca159b335d15709880d3e4a"), looks := false }, kinds := [], alts := [], laidByText := true, laidKinds := [.data, .data, .pinned], laidTests := true, laidLooks := .later }
def LabelRunesCardSaid : Prop := Claim7.holds Tryd.pinned (.plain (OpenSpec.ofChange labelRunesSpec)) labelRunesCard

/-- THE TIED CARD OF 'plumboblaw01.LabelParts'. -/
def labelPartsCard : Claim7 := { stood := { row := labelPartsRow, standIns := [], harness := (true, "650811ae92ffd41cf4e185dfc276ef6487847c6e5ca159b335d15709880d3e4a"), looks := false }, kinds := [], alts := [], laidByText := true, laidKinds := [.data, .data, .pinned], laidTests := true, laidLooks := .later }
def LabelPartsCardSaid : Prop := Claim7.holds Tryd.pinned (.plain (OpenSpec.ofChange labelPartsSpec)) labelPartsCard

/-- THE TIED CARD OF 'plumboblaw01.LabelJoins'. -/
def labelJoinsCard : Claim7 := { stood := { row := labelJoinsRow, standIns := [], harness := (true, "650811ae92ffd41cf4e185dfc276ef6487847c6e5ca159b335d15709880d3e4a"), looks := false }, kinds := [], alts := [], laidByText := true, laidKinds := [.data, .data, .pinned], laidTests := true, laidLooks := .later }
def LabelJoinsCardSaid : Prop := Claim7.holds Tryd.pinned (.plain (OpenSpec.ofChange labelJoinsSpec)) labelJoinsCard

/-- THE TIED CARD OF 'plumboblaw20.RosterAdds'. -/
def rosterAddsCard : Claim7 := { stood := { row := rosterAddsRow, standIns := [], harness := (true, "650811ae92ffd41cf4e185dfc276ef6487847c6e5ca159b335d15709880d3e4a"), looks := false }, kinds := [], alts := [], laidByText := true, laidKinds := [.data, .data, .pinned], laidTests := true, laidLooks := .later }
def RosterAddsCardSaid : Prop := Claim7.holds Tryd.pinned (.plain (OpenSpec.ofChange rosterAddsSpec)) rosterAddsCard

/-- THE TIED CARD OF 'plumboblaw10.BookAreas'. -/
def bookAreasCard : Claim7 := { stood := { row := bookAreasRow, standIns := [], harness := (true, "650811ae92ffd41cf4e185dfc276ef6487847c6e5ca159b335d15709880d3e4a"), looks := false }, kinds := [], alts := [], laidByText := true, laidKinds := [.data], laidTests := true, laidLooks := .later }
def BookAreasCardSaid : Prop := Claim7.holds Tryd.pinned (.plain (OpenSpec.ofChange bookAreasSpec)) bookAreasCard

/-- THE TIED CARD OF 'plumboblaw10.BookTorn'. -/
def bookTornCard : Claim7 := { stood := { row := bookTornRow, standIns := [], harness := (true, "650811ae92ffd41cf4e185dfc276ef6487847c6e5ca159b335d15709880d3e4a"), looks := false }, kinds := [], alts := [], laidByText := true, laidKinds := [.data], laidTests := true, laidLooks := .later }
def BookTornCardSaid : Prop := Claim7.holds Tryd.pinned (.plain (OpenSpec.ofChange bookTornSpec)) bookTornCard

/-- THE TIED CARD OF 'plumboblaw13.SmtRoots'. -/
def smtRootsCard : Claim7 := { stood := { row := smtRootsRow, standIns := [], harness := (true, "650811ae92ffd41cf4e185dfc276ef6487847c6e5ca159b335d15709880d3e4a"), looks := false }, kinds := [], alts := [], laidByText := true, laidKinds := [.data], laidTests := true, laidLooks := .later }
def SmtRootsCardSaid : Prop := Claim7.holds Tryd.pinned (.plain (OpenSpec.ofChange smtRootsSpec)) smtRootsCard

/-- THE TIED CARD OF 'plumboblaw13.SmtNodes'. -/
def smtNodesCard : Claim7 := { stood := { row := smtNodesRow, standIns := [], harness := (true, "650811ae92ffd41cf4e185dfc276ef6487847c6e5ca159b335d15709880d3e4a"), looks := false }, kinds := [], alts := [], laidByText := true, laidKinds := [.data], laidTests := true, laidLooks := .later }
def SmtNodesCardSaid : Prop := Claim7.holds Tryd.pinned (.plain (OpenSpec.ofChange smtNodesSpec)) smtNodesCard

/-- THE TIED CARD OF 'plumboblaw15.BandNodes'. -/
def bandNodesCard : Claim7 := { stood := { row := bandNodesRow, standIns := [], harness := (true, "650811ae92ffd41cf4e185dfc276ef6487847c6e5ca159b335d15709880d3e4a"), looks := false }, kinds := [], alts := [], laidByText := true, laidKinds := [.data], laidTests := true, laidLooks := .later }
def BandNodesCardSaid : Prop := Claim7.holds Tryd.pinned (.plain (OpenSpec.ofChange bandNodesSpec)) bandNodesCard

/-- THE TIED CARD OF 'plumboblaw14.ProofTells'. -/
def proofTellsCard : Claim7 := { stood := { row := proofTellsRow, standIns := [], harness := (true, "650811ae92ffd41cf4e185dfc276ef6487847c6e5ca159b335d15709880d3e4a"), looks := false }, kinds := [], alts := [], laidByText := true, laidKinds := [.data], laidTests := true, laidLooks := .later }
def ProofTellsCardSaid : Prop := Claim7.holds Tryd.pinned (.plain (OpenSpec.ofChange proofTellsSpec)) proofTellsCard

/-- THE TIED CARD OF 'plumboblaw14.ProofBands'. -/
def proofBandsCard : Claim7 := { stood := { row := proofBandsRow, standIns := [], harness := (true, "650811ae92ffd41cf4e185dfc276ef6487847c6e5ca159b335d15709880d3e4a"), looks := false }, kinds := [], alts := [], laidByText := true, laidKinds := [.data], laidTests := true, laidLooks := .later }
def ProofBandsCardSaid : Prop := Claim7.holds Tryd.pinned (.plain (OpenSpec.ofChange proofBandsSpec)) proofBandsCard

/-- THE SECOND FORM's CARD OF 'plumboblaw01.LabelNormals'. -/
def labelNormalsUptoCard : Claim7 := { stood := { row := labelNormalsUptoRow, standIns := [], harness := (true, "650811ae92ffd41cf4e185dfc276ef6487847c6e5ca159b335d15709880d3e4a"), looks := false }, kinds := [], alts := [], laidByText := true, laidKinds := [.data, .data, .pinned], laidTests := true, laidLooks := .later }
def LabelNormalsUptoCardSaid : Prop := Claim7.holds Tryd.pinned (.plain (OpenSpec.upto labelNormalsSpec)) labelNormalsUptoCard

/-- THE SECOND FORM's CARD OF 'plumboblaw01.LabelRunes'. -/
def labelRunesUptoCard : Claim7 := { stood := { row := labelRunesUptoRow, standIns := [], harness := (true, "650811ae92ffd41cf4e185dfc276ef6487847c6e5ca159b335d15709880d3e4a"), looks := false }, kinds := [], alts := [], laidByText := true, laidKinds := [.data, .data, .pinned], laidTests := true, laidLooks := .later }
def LabelRunesUptoCardSaid : Prop := Claim7.holds Tryd.pinned (.plain (OpenSpec.upto labelRunesSpec)) labelRunesUptoCard

/-- THE SECOND FORM's CARD OF 'plumboblaw01.LabelParts'. -/
def labelPartsUptoCard : Claim7 := { stood := { row := labelPartsUptoRow, standIns := [], harness := (true, "650811ae92ffd41cf4e185dfc276ef6487847c6e5ca159b335d15709880d3e4a"), looks := false }, kinds := [], alts := [], laidByText := true, laidKinds := [.data, .data, .pinned], laidTests := true, laidLooks := .later }
def LabelPartsUptoCardSaid : Prop := Claim7.holds Tryd.pinned (.plain (OpenSpec.upto labelPartsSpec)) labelPartsUptoCard

/-- THE SECOND FORM's CARD OF 'plumboblaw01.LabelJoins'. -/
def labelJoinsUptoCard : Claim7 := { stood := { row := labelJoinsUptoRow, standIns := [], harness := (true, "650811ae92ffd41cf4e185dfc276ef6487847c6e5ca159b335d15709880d3e4a"), looks := false }, kinds := [], alts := [], laidByText := true, laidKinds := [.data, .data, .pinned], laidTests := true, laidLooks := .later }
def LabelJoinsUptoCardSaid : Prop := Claim7.holds Tryd.pinned (.plain (OpenSpec.upto labelJoinsSpec)) labelJoinsUptoCard

/-- THE SECOND FORM's CARD OF 'plumboblaw20.RosterAdds'. -/
def rosterAddsUptoCard : Claim7 := { stood := { row := rosterAddsUptoRow, standIns := [], harness := (true, "650811ae92ffd41cf4e185dfc276ef6487847c6e5ca159b335d15709880d3e4a"), looks := false }, kinds := [], alts := [], laidByText := true, laidKinds := [.data, .data, .pinned], laidTests := true, laidLooks := .later }
def RosterAddsUptoCardSaid : Prop := Claim7.holds Tryd.pinned (.plain (OpenSpec.upto rosterAddsSpec)) rosterAddsUptoCard

/-- THE SECOND FORM's CARD OF 'plumboblaw10.BookAreas'. -/
def bookAreasUptoCard : Claim7 := { stood := { row := bookAreasUptoRow, standIns := [], harness := (true, "650811ae92ffd41cf4e185dfc276ef6487847c6e5ca159b335d15709880d3e4a"), looks := false }, kinds := [], alts := [], laidByText := true, laidKinds := [.data], laidTests := true, laidLooks := .later }
def BookAreasUptoCardSaid : Prop := Claim7.holds Tryd.pinned (.plain (OpenSpec.upto bookAreasSpec)) bookAreasUptoCard

/-- THE SECOND FORM's CARD OF 'plumboblaw10.BookTorn'. -/
def bookTornUptoCard : Claim7 := { stood := { row := bookTornUptoRow, standIns := [], harness := (true, "650811ae92ffd41cf4e185dfc276ef6487847c6e5ca159b335d15709880d3e4a"), looks := false }, kinds := [], alts := [], laidByText := true, laidKinds := [.data], laidTests := true, laidLooks := .later }
def BookTornUptoCardSaid : Prop := Claim7.holds Tryd.pinned (.plain (OpenSpec.upto bookTornSpec)) bookTornUptoCard

/-- THE SECOND FORM's CARD OF 'plumboblaw13.SmtRoots'. -/
def smtRootsUptoCard : Claim7 := { stood := { row := smtRootsUptoRow, standIns := [], harness := (true, "650811ae92ffd41cf4e185dfc276ef6487847c6e5ca159b335d15709880d3e4a"), looks := false }, kinds := [], alts := [], laidByText := true, laidKinds := [.data], laidTests := true, laidLooks := .later }
def SmtRootsUptoCardSaid : Prop := Claim7.holds Tryd.pinned (.plain (OpenSpec.upto smtRootsSpec)) smtRootsUptoCard

/-- THE SECOND FORM's CARD OF 'plumboblaw13.SmtNodes'. -/
def smtNodesUptoCard : Claim7 := { stood := { row := smtNodesUptoRow, standIns := [], harness := (true, "650811ae92ffd41cf4e185dfc276ef6487847c6e5ca159b335d15709880d3e4a"), looks := false }, kinds := [], alts := [], laidByText := true, laidKinds := [.data], laidTests := true, laidLooks := .later }
def SmtNodesUptoCardSaid : Prop := Claim7.holds Tryd.pinned (.plain (OpenSpec.upto smtNodesSpec)) smtNodesUptoCard

/-- THE SECOND FORM's CARD OF 'plumboblaw15.BandNodes'. -/
def bandNodesUptoCard : Claim7 := { stood := { row := bandNodesUptoRow, standIns := [], harness := (true, "650811ae92ffd41cf4e185dfc276ef6487847c6e5ca159b335d15709880d3e4a"), looks := false }, kinds := [], alts := [], laidByText := true, laidKinds := [.data], laidTests := true, laidLooks := .later }
def BandNodesUptoCardSaid : Prop := Claim7.holds Tryd.pinned (.plain (OpenSpec.upto bandNodesSpec)) bandNodesUptoCard

/-- THE SECOND FORM's CARD OF 'plumboblaw14.ProofTells'. -/
def proofTellsUptoCard : Claim7 := { stood := { row := proofTellsUptoRow, standIns := [], harness := (true, "650811ae92ffd41cf4e185dfc276ef6487847c6e5ca159b335d15709880d3e4a"), looks := false }, kinds := [], alts := [], laidByText := true, laidKinds := [.data], laidTests := true, laidLooks := .later }
def ProofTellsUptoCardSaid : Prop := Claim7.holds Tryd.pinned (.plain (OpenSpec.upto proofTellsSpec)) proofTellsUptoCard

/-- THE SECOND FORM's CARD OF 'plumboblaw14.ProofBands'. -/
def proofBandsUptoCard : Claim7 := { stood := { row := proofBandsUptoRow, standIns := [], harness := (true, "650811ae92ffd41cf4e185dfc276ef6487847c6e5ca159b335d15709880d3e4a"), looks := false }, kinds := [], alts := [], laidByText := true, laidKinds := [.data], laidTests := true, laidLooks := .later }
def ProofBandsUptoCardSaid : Prop := Claim7.holds Tryd.pinned (.plain (OpenSpec.upto proofBandsSpec)) proofBandsUptoCard
end Rows
end Go.Proofs.YtpcffgkmpmcobaaDoor
