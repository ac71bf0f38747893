/-
  DERIVED. GIVEN WITH THE SEED: THE CARDS: each row of YtmemgokiolfdoaaGreatDoorRows.lean that lists a variable, with what it lists TIED to the program's text (the seventh form; the later family's looks); each row that meets fmt, with fmt's text TOLD by the authors' own Lean function (tested against real Go, not proved from fmt's source: count such statements apart). THE CARD IS WHAT COUNTS. Prove the row's statement (the work); the ties are given (YtmemgokiolfdoaaGreatDoorTie.lean); close each card by the builder's one call (the guide's Derived/Test/ToyasCard.lean, 'card_holds'). Laid BY PROGRAM, IN A SANDBOX (cutbox-door.mjs). By AI agents, Wed Nov 11 2026. No macro, syntax, notation, axiom, sorry.
-/
import Derived.Test.YtmemgokiolfdoaaGreatDoorRows
import GoSem.ClaimSeven
namespace Go.Proofs.YtmemgokiolfdoaaGreatDoor
namespace Rows

/-- THE TIED CARD OF 'plumboblaw24.ServerPlays'. -/
def serverPlaysCard : Claim7 := { stood := { row := serverPlaysRow, standIns := [], harness := (true, "e8613b0976c74a15e7af81ce486b31159aaa6c0fef3801a201d281115f8a3936"), looks := true }, kinds := [], alts := [], laidByText := true, laidKinds := [.data, .data, .data, .pinned], laidTests := true, laidLooks := .later }
def ServerPlaysCardSaid : Prop := Claim7.holds Tryz.pinned (.plain (OpenSpec.ofChange serverPlaysSpec)) serverPlaysCard

/-- THE TIED CARD OF 'plumboblaw29.MonitorReads'. -/
def monitorReadsCard : Claim7 := { stood := { row := monitorReadsRow, standIns := [], harness := (true, "e8613b0976c74a15e7af81ce486b31159aaa6c0fef3801a201d281115f8a3936"), looks := true }, kinds := [], alts := [], laidByText := true, laidKinds := [.data, .data, .data, .pinned], laidTests := true, laidLooks := .later }
def MonitorReadsCardSaid : Prop := Claim7.holds Tryz.pinned (.plain (OpenSpec.ofChange monitorReadsSpec)) monitorReadsCard

/-- THE TIED CARD OF 'plumboblaw29.MonitorSees'. -/
def monitorSeesCard : Claim7 := { stood := { row := monitorSeesRow, standIns := [], harness := (true, "e8613b0976c74a15e7af81ce486b31159aaa6c0fef3801a201d281115f8a3936"), looks := true }, kinds := [], alts := [], laidByText := true, laidKinds := [.data, .data, .data, .pinned], laidTests := true, laidLooks := .later }
def MonitorSeesCardSaid : Prop := Claim7.holds Tryz.pinned (.plain (OpenSpec.ofChange monitorSeesSpec)) monitorSeesCard

/-- THE TIED CARD OF 'plumboblaw29.MonitorRefuses'. -/
def monitorRefusesCard : Claim7 := { stood := { row := monitorRefusesRow, standIns := [], harness := (true, "e8613b0976c74a15e7af81ce486b31159aaa6c0fef3801a201d281115f8a3936"), looks := true }, kinds := [], alts := [], laidByText := true, laidKinds := [.data, .data, .data, .pinned], laidTests := true, laidLooks := .later }
def MonitorRefusesCardSaid : Prop := Claim7.holds Tryz.pinned (.plain (OpenSpec.ofChange monitorRefusesSpec)) monitorRefusesCard

/-- THE SECOND FORM's CARD OF 'plumboblaw24.ServerPlays'. -/
def serverPlaysUptoCard : Claim7 := { stood := { row := serverPlaysUptoRow, standIns := [], harness := (true, "e8613b0976c74a15e7af81ce486b31159aaa6c0fef3801a201d281115f8a3936"), looks := true }, kinds := [], alts := [], laidByText := true, laidKinds := [.data, .data, .data, .pinned], laidTests := true, laidLooks := .later }
def ServerPlaysUptoCardSaid : Prop := Claim7.holds Tryz.pinned (.plain (OpenSpec.upto serverPlaysSpec)) serverPlaysUptoCard

/-- THE SECOND FORM's CARD OF 'plumboblaw29.MonitorReads'. -/
def monitorReadsUptoCard : Claim7 := { stood := { row := monitorReadsUptoRow, standIns := [], harness := (true, "e8613b0976c74a15e7af81ce486b31159aaa6c0fef3801a201d281115f8a3936"), looks := true }, kinds := [], alts := [], laidByText := true, laidKinds := [.data, .data, .data, .pinned], laidTests := true, laidLooks := .later }
def MonitorReadsUptoCardSaid : Prop := Claim7.holds Tryz.pinned (.plain (OpenSpec.upto monitorReadsSpec)) monitorReadsUptoCard

/-- THE SECOND FORM's CARD OF 'plumboblaw29.MonitorSees'. -/
def monitorSeesUptoCard : Claim7 := { stood := { row := monitorSeesUptoRow, standIns := [], harness := (true, "e8613b0976c74a15e7af81ce486b31159aaa6c0fef3801a201d281115f8a3936"), looks := true }, kinds := [], alts := [], laidByText := true, laidKinds := [.data, .data, .data, .pinned], laidTests := true, laidLooks := .later }
def MonitorSeesUptoCardSaid : Prop := Claim7.holds Tryz.pinned (.plain (OpenSpec.upto monitorSeesSpec)) monitorSeesUptoCard

/-- THE SECOND FORM's CARD OF 'plumboblaw29.MonitorRefuses'. -/
def monitorRefusesUptoCard : Claim7 := { stood := { row := monitorRefusesUptoRow, standIns := [], harness := (true, "e8613b0976c74a15e7af81ce486b31159aaa6c0fef3801a201d281115f8a3936"), looks := true }, kinds := [], alts := [], laidByText := true, laidKinds := [.data, .data, .data, .pinned], laidTests := true, laidLooks := .later }
def MonitorRefusesUptoCardSaid : Prop := Claim7.holds Tryz.pinned (.plain (OpenSpec.upto monitorRefusesSpec)) monitorRefusesUptoCard
end Rows
end Go.Proofs.YtmemgokiolfdoaaGreatDoor
