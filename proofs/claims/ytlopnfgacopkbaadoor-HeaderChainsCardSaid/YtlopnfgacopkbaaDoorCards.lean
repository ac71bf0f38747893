/-
  DERIVED. GIVEN WITH THE SEED: THE CARDS: each row of YtlopnfgacopkbaaDoorRows.lean that lists a variable, with what it lists TIED to the program's text (the seventh form; the later family's looks); each row that meets fmt, with fmt's text TOLD by the authors' own Lean function (tested against real Go, not proved from fmt's source: count such statements apart). THE CARD IS WHAT COUNTS. Prove the row's statement (the work); the ties are given (YtlopnfgacopkbaaDoorTie.lean); close each card by the builder's one call (the guide's Derived/Test/ToyasCard.lean, 'card_holds'). Laid BY PROGRAM, IN A SANDBOX (cutbox-door.mjs). By AI agents, Wed Nov 11 2026. No macro, syntax, notation, axiom, sorry.
-/
import Derived.Test.YtlopnfgacopkbaaDoorRows
import GoSem.ClaimSeven
namespace Go.Proofs.YtlopnfgacopkbaaDoor
namespace Rows

/-- THE TIED CARD OF 'plumboblaw08.XmssSigns'. -/
def xmssSignsCard : Claim7 := { stood := { row := xmssSignsRow, standIns := [], harness := (true, "9f40e4a63fc4e4d540f0daf2276b8e00caa2f629645139b89bd7ca876220aadc"), looks := false }, kinds := [], alts := [], laidByText := true, laidKinds := [.data], laidTests := true, laidLooks := .later }
def XmssSignsCardSaid : Prop := Claim7.holds Tryd.pinned (.plain (OpenSpec.ofChange xmssSignsSpec)) xmssSignsCard

/-- THE TIED CARD OF 'plumboblaw17.EntryHistories'. -/
def entryHistoriesCard : Claim7 := { stood := { row := entryHistoriesRow, standIns := [], harness := (true, "9f40e4a63fc4e4d540f0daf2276b8e00caa2f629645139b89bd7ca876220aadc"), looks := false }, kinds := [], alts := [], laidByText := true, laidKinds := [.data], laidTests := true, laidLooks := .later }
def EntryHistoriesCardSaid : Prop := Claim7.holds Tryd.pinned (.plain (OpenSpec.ofChange entryHistoriesSpec)) entryHistoriesCard

/-- THE TIED CARD OF 'plumboblaw19.HeaderChains'. -/
def headerChainsCard : Claim7 := { stood := { row := headerChainsRow, standIns := [], harness := (true, "9f40e4a63fc4e4d540f0daf2276b8e00caa2f629645139b89bd7ca876220aadc"), looks := false }, kinds := [], alts := [], laidByText := true, laidKinds := [.data], laidTests := true, laidLooks := .later }
def HeaderChainsCardSaid : Prop := Claim7.holds Tryd.pinned (.plain (OpenSpec.ofChange headerChainsSpec)) headerChainsCard

/-- THE TIED CARD OF 'plumboblaw17.EntryCodes'. -/
def entryCodesCard : Claim7 := { stood := { row := entryCodesRow, standIns := [], harness := (true, "9f40e4a63fc4e4d540f0daf2276b8e00caa2f629645139b89bd7ca876220aadc"), looks := false }, kinds := [], alts := [], laidByText := true, laidKinds := [.data], laidTests := true, laidLooks := .later }
def EntryCodesCardSaid : Prop := Claim7.holds Tryd.pinned (.plain (OpenSpec.ofChange entryCodesSpec)) entryCodesCard

/-- THE TIED CARD OF 'plumboblaw17.EntryParses'. -/
def entryParsesCard : Claim7 := { stood := { row := entryParsesRow, standIns := [], harness := (true, "9f40e4a63fc4e4d540f0daf2276b8e00caa2f629645139b89bd7ca876220aadc"), looks := false }, kinds := [], alts := [], laidByText := true, laidKinds := [.data], laidTests := true, laidLooks := .later }
def EntryParsesCardSaid : Prop := Claim7.holds Tryd.pinned (.plain (OpenSpec.ofChange entryParsesSpec)) entryParsesCard

/-- THE TIED CARD OF 'plumboblaw08.XmssCodes'. -/
def xmssCodesCard : Claim7 := { stood := { row := xmssCodesRow, standIns := [], harness := (true, "9f40e4a63fc4e4d540f0daf2276b8e00caa2f629645139b89bd7ca876220aadc"), looks := false }, kinds := [], alts := [], laidByText := true, laidKinds := [.data], laidTests := true, laidLooks := .later }
def XmssCodesCardSaid : Prop := Claim7.holds Tryd.pinned (.plain (OpenSpec.ofChange xmssCodesSpec)) xmssCodesCard

/-- THE TIED CARD OF 'plumboblaw19.HeaderParses'. -/
def headerParsesCard : Claim7 := { stood := { row := headerParsesRow, standIns := [], harness := (true, "9f40e4a63fc4e4d540f0daf2276b8e00caa2f629645139b89bd7ca876220aadc"), looks := false }, kinds := [], alts := [], laidByText := true, laidKinds := [.data], laidTests := true, laidLooks := .later }
def HeaderParsesCardSaid : Prop := Claim7.holds Tryd.pinned (.plain (OpenSpec.ofChange headerParsesSpec)) headerParsesCard

/-- THE TIED CARD OF 'plumboblaw19.HeaderCodes'. -/
def headerCodesCard : Claim7 := { stood := { row := headerCodesRow, standIns := [], harness := (true, "9f40e4a63fc4e4d540f0daf2276b8e00caa2f629645139b89bd7ca876220aadc"), looks := false }, kinds := [], alts := [], laidByText := true, laidKinds := [.data], laidTests := true, laidLooks := .later }
def HeaderCodesCardSaid : Prop := Claim7.holds Tryd.pinned (.plain (OpenSpec.ofChange headerCodesSpec)) headerCodesCard

/-- THE TIED CARD OF 'plumboblaw22.AttestParses'. -/
def attestParsesCard : Claim7 := { stood := { row := attestParsesRow, standIns := [], harness := (true, "9f40e4a63fc4e4d540f0daf2276b8e00caa2f629645139b89bd7ca876220aadc"), looks := false }, kinds := [], alts := [], laidByText := true, laidKinds := [.data], laidTests := true, laidLooks := .later }
def AttestParsesCardSaid : Prop := Claim7.holds Tryd.pinned (.plain (OpenSpec.ofChange attestParsesSpec)) attestParsesCard

/-- THE SECOND FORM's CARD OF 'plumboblaw08.XmssSigns'. -/
def xmssSignsUptoCard : Claim7 := { stood := { row := xmssSignsUptoRow, standIns := [], harness := (true, "9f40e4a63fc4e4d540f0daf2276b8e00caa2f629645139b89bd7ca876220aadc"), looks := false }, kinds := [], alts := [], laidByText := true, laidKinds := [.data], laidTests := true, laidLooks := .later }
def XmssSignsUptoCardSaid : Prop := Claim7.holds Tryd.pinned (.plain (OpenSpec.upto xmssSignsSpec)) xmssSignsUptoCard

/-- THE SECOND FORM's CARD OF 'plumboblaw17.EntryHistories'. -/
def entryHistoriesUptoCard : Claim7 := { stood := { row := entryHistoriesUptoRow, standIns := [], harness := (true, "9f40e4a63fc4e4d540f0daf2276b8e00caa2f629645139b89bd7ca876220aadc"), looks := false }, kinds := [], alts := [], laidByText := true, laidKinds := [.data], laidTests := true, laidLooks := .later }
def EntryHistoriesUptoCardSaid : Prop := Claim7.holds Tryd.pinned (.plain (OpenSpec.upto entryHistoriesSpec)) entryHistoriesUptoCard

/-- THE SECOND FORM's CARD OF 'plumboblaw19.HeaderChains'. -/
def headerChainsUptoCard : Claim7 := { stood := { row := headerChainsUptoRow, standIns := [], harness := (true, "9f40e4a63fc4e4d540f0daf2276b8e00caa2f629645139b89bd7ca876220aadc"), looks := false }, kinds := [], alts := [], laidByText := true, laidKinds := [.data], laidTests := true, laidLooks := .later }
def HeaderChainsUptoCardSaid : Prop := Claim7.holds Tryd.pinned (.plain (OpenSpec.upto headerChainsSpec)) headerChainsUptoCard

/-- THE SECOND FORM's CARD OF 'plumboblaw17.EntryCodes'. -/
def entryCodesUptoCard : Claim7 := { stood := { row := entryCodesUptoRow, standIns := [], harness := (true, "9f40e4a63fc4e4d540f0daf2276b8e00caa2f629645139b89bd7ca876220aadc"), looks := false }, kinds := [], alts := [], laidByText := true, laidKinds := [.data], laidTests := true, laidLooks := .later }
def EntryCodesUptoCardSaid : Prop := Claim7.holds Tryd.pinned (.plain (OpenSpec.upto entryCodesSpec)) entryCodesUptoCard

/-- THE SECOND FORM's CARD OF 'plumboblaw17.EntryParses'. -/
def entryParsesUptoCard : Claim7 := { stood := { row := entryParsesUptoRow, standIns := [], harness := (true, "9f40e4a63fc4e4d540f0daf2276b8e00caa2f629645139b89bd7ca876220aadc"), looks := false }, kinds := [], alts := [], laidByText := true, laidKinds := [.data], laidTests := true, laidLooks := .later }
def EntryParsesUptoCardSaid : Prop := Claim7.holds Tryd.pinned (.plain (OpenSpec.upto entryParsesSpec)) entryParsesUptoCard

/-- THE SECOND FORM's CARD OF 'plumboblaw08.XmssCodes'. -/
def xmssCodesUptoCard : Claim7 := { stood := { row := xmssCodesUptoRow, standIns := [], harness := (true, "9f40e4a63fc4e4d540f0daf2276b8e00caa2f629645139b89bd7ca876220aadc"), looks := false }, kinds := [], alts := [], laidByText := true, laidKinds := [.data], laidTests := true, laidLooks := .later }
def XmssCodesUptoCardSaid : Prop := Claim7.holds Tryd.pinned (.plain (OpenSpec.upto xmssCodesSpec)) xmssCodesUptoCard

/-- THE SECOND FORM's CARD OF 'plumboblaw19.HeaderParses'. -/
def headerParsesUptoCard : Claim7 := { stood := { row := headerParsesUptoRow, standIns := [], harness := (true, "9f40e4a63fc4e4d540f0daf2276b8e00caa2f629645139b89bd7ca876220aadc"), looks := false }, kinds := [], alts := [], laidByText := true, laidKinds := [.data], laidTests := true, laidLooks := .later }
def HeaderParsesUptoCardSaid : Prop := Claim7.holds Tryd.pinned (.plain (OpenSpec.upto headerParsesSpec)) headerParsesUptoCard

/-- THE SECOND FORM's CARD OF 'plumboblaw19.HeaderCodes'. -/
def headerCodesUptoCard : Claim7 := { stood := { row := headerCodesUptoRow, standIns := [], harness := (true, "9f40e4a63fc4e4d540f0daf2276b8e00caa2f629645139b89bd7ca876220aadc"), looks := false }, kinds := [], alts := [], laidByText := true, laidKinds := [.data], laidTests := true, laidLooks := .later }
def HeaderCodesUptoCardSaid : Prop := Claim7.holds Tryd.pinned (.plain (OpenSpec.upto headerCodesSpec)) headerCodesUptoCard

/-- THE SECOND FORM's CARD OF 'plumboblaw22.AttestParses'. -/
def attestParsesUptoCard : Claim7 := { stood := { row := attestParsesUptoRow, standIns := [], harness := (true, "9f40e4a63fc4e4d540f0daf2276b8e00caa2f629645139b89bd7ca876220aadc"), looks := false }, kinds := [], alts := [], laidByText := true, laidKinds := [.data], laidTests := true, laidLooks := .later }
def AttestParsesUptoCardSaid : Prop := Claim7.holds Tryd.pinned (.plain (OpenSpec.upto attestParsesSpec)) attestParsesUptoCard
end Rows
end Go.Proofs.YtlopnfgacopkbaaDoor
