/-
  DERIVED. GIVEN WITH THE SEED: THE CARDS: each row of YtnkfapecbmmpeaaDoorRows.lean that lists a variable, with what it lists TIED to the program's text (the seventh form; the later family's looks); each row that meets fmt, with fmt's text TOLD by the authors' own Lean function (tested against real Go, not proved from fmt's source: count such statements apart). THE CARD IS WHAT COUNTS. Prove the row's statement (the work); the ties are given (YtnkfapecbmmpeaaDoorTie.lean); close each card by the builder's one call (the guide's Derived/Test/ToyasCard.lean, 'card_holds'). Laid BY PROGRAM, IN A SANDBOX (cutbox-door.mjs). By AI agents, Wed Nov 11 2026. No macro, syntax, notation, axiom, sorry.
-/
import Derived.Test.YtnkfapecbmmpeaaDoorRows
import GoSem.ClaimSeven
namespace Go.Proofs.YtnkfapecbmmpeaaDoor
namespace Rows

/-- THE TIED CARD OF 'plumboblaw20.RosterLays'. -/
def rosterLaysCard : Claim7 := { stood := { row := rosterLaysRow, standIns := [], harness := (true, "3ddc1786e530603a4ac139155b8586c90561172cef88fe3f66442c128f84ac80"), looks := false }, kinds := [], alts := [], laidByText := true, laidKinds := [.data, .data, .data, .pinned], laidTests := true, laidLooks := .later }
def RosterLaysCardSaid : Prop := Claim7.holds Tryd.pinned (.plain (OpenSpec.ofChange rosterLaysSpec)) rosterLaysCard

/-- THE TIED CARD OF 'plumboblaw14.ProofAfter'. -/
def proofAfterCard : Claim7 := { stood := { row := proofAfterRow, standIns := [], harness := (true, "3ddc1786e530603a4ac139155b8586c90561172cef88fe3f66442c128f84ac80"), looks := false }, kinds := [], alts := [], laidByText := true, laidKinds := [.data], laidTests := true, laidLooks := .later }
def ProofAfterCardSaid : Prop := Claim7.holds Tryd.pinned (.plain (OpenSpec.ofChange proofAfterSpec)) proofAfterCard

/-- THE TIED CARD OF 'plumboblaw11.SignerOpens'. -/
def signerOpensCard : Claim7 := { stood := { row := signerOpensRow, standIns := [], harness := (true, "3ddc1786e530603a4ac139155b8586c90561172cef88fe3f66442c128f84ac80"), looks := false }, kinds := [], alts := [], laidByText := true, laidKinds := [.data], laidTests := true, laidLooks := .later }
def SignerOpensCardSaid : Prop := Claim7.holds Tryd.pinned (.plain (OpenSpec.ofChange signerOpensSpec)) signerOpensCard

/-- THE TIED CARD OF 'plumboblaw11.SignerOnce'. -/
def signerOnceCard : Claim7 := { stood := { row := signerOnceRow, standIns := [], harness := (true, "3ddc1786e530603a4ac139155b8586c90561172cef88fe3f66442c128f84ac80"), looks := false }, kinds := [], alts := [], laidByText := true, laidKinds := [.data], laidTests := true, laidLooks := .later }
def SignerOnceCardSaid : Prop := Claim7.holds Tryd.pinned (.plain (OpenSpec.ofChange signerOnceSpec)) signerOnceCard

/-- THE TIED CARD OF 'plumboblaw14.ProofCodes'. -/
def proofCodesCard : Claim7 := { stood := { row := proofCodesRow, standIns := [], harness := (true, "3ddc1786e530603a4ac139155b8586c90561172cef88fe3f66442c128f84ac80"), looks := false }, kinds := [], alts := [], laidByText := true, laidKinds := [.data], laidTests := true, laidLooks := .later }
def ProofCodesCardSaid : Prop := Claim7.holds Tryd.pinned (.plain (OpenSpec.ofChange proofCodesSpec)) proofCodesCard

/-- THE SECOND FORM's CARD OF 'plumboblaw20.RosterLays'. -/
def rosterLaysUptoCard : Claim7 := { stood := { row := rosterLaysUptoRow, standIns := [], harness := (true, "3ddc1786e530603a4ac139155b8586c90561172cef88fe3f66442c128f84ac80"), looks := false }, kinds := [], alts := [], laidByText := true, laidKinds := [.data, .data, .data, .pinned], laidTests := true, laidLooks := .later }
def RosterLaysUptoCardSaid : Prop := Claim7.holds Tryd.pinned (.plain (OpenSpec.upto rosterLaysSpec)) rosterLaysUptoCard

/-- THE SECOND FORM's CARD OF 'plumboblaw14.ProofAfter'. -/
def proofAfterUptoCard : Claim7 := { stood := { row := proofAfterUptoRow, standIns := [], harness := (true, "3ddc1786e530603a4ac139155b8586c90561172cef88fe3f66442c128f84ac80"), looks := false }, kinds := [], alts := [], laidByText := true, laidKinds := [.data], laidTests := true, laidLooks := .later }
def ProofAfterUptoCardSaid : Prop := Claim7.holds Tryd.pinned (.plain (OpenSpec.upto proofAfterSpec)) proofAfterUptoCard

/-- THE SECOND FORM's CARD OF 'plumboblaw11.SignerOpens'. -/
def signerOpensUptoCard : Claim7 := { stood := { row := signerOpensUptoRow, standIns := [], harness := (true, "3ddc1786e530603a4ac139155b8586c90561172cef88fe3f66442c128f84ac80"), looks := false }, kinds := [], alts := [], laidByText := true, laidKinds := [.data], laidTests := true, laidLooks := .later }
def SignerOpensUptoCardSaid : Prop := Claim7.holds Tryd.pinned (.plain (OpenSpec.upto signerOpensSpec)) signerOpensUptoCard

/-- THE SECOND FORM's CARD OF 'plumboblaw11.SignerOnce'. -/
def signerOnceUptoCard : Claim7 := { stood := { row := signerOnceUptoRow, standIns := [], harness := (true, "3ddc1786e530603a4ac139155b8586c90561172cef88fe3f66442c128f84ac80"), looks := false }, kinds := [], alts := [], laidByText := true, laidKinds := [.data], laidTests := true, laidLooks := .later }
def SignerOnceUptoCardSaid : Prop := Claim7.holds Tryd.pinned (.plain (OpenSpec.upto signerOnceSpec)) signerOnceUptoCard

/-- THE SECOND FORM's CARD OF 'plumboblaw14.ProofCodes'. -/
def proofCodesUptoCard : Claim7 := { stood := { row := proofCodesUptoRow, standIns := [], harness := (true, "3ddc1786e530603a4ac139155b8586c90561172cef88fe3f66442c128f84ac80"), looks := false }, kinds := [], alts := [], laidByText := true, laidKinds := [.data], laidTests := true, laidLooks := .later }
def ProofCodesUptoCardSaid : Prop := Claim7.holds Tryd.pinned (.plain (OpenSpec.upto proofCodesSpec)) proofCodesUptoCard
end Rows
end Go.Proofs.YtnkfapecbmmpeaaDoor
