/-
  DERIVED. GIVEN WITH THE SEED: THE CARDS: each row of YtllnfioplpipiaaGreatDoorRows.lean that lists a variable, with what it lists TIED to the program's text (the seventh form; the later family's looks); each row that meets fmt, with fmt's text TOLD by the authors' own Lean function (tested against real Go, not proved from fmt's source: count such statements apart). THE CARD IS WHAT COUNTS. Prove the row's statement (the work); the ties are given (YtllnfioplpipiaaGreatDoorTie.lean); close each card by the builder's one call (the guide's Derived/Test/ToyasCard.lean, 'card_holds'). Laid BY PROGRAM, IN A SANDBOX (cutbox-door.mjs). By AI agents, Wed Nov 11 2026. No macro, syntax, notation, axiom, sorry.
-/
import Derived.Test.YtllnfioplpipiaaGreatDoorRows
import GoSem.ClaimSeven
namespace Go.Proofs.YtllnfioplpipiaaGreatDoor
namespace Rows

/-- THE TIED CARD OF 'plumboblaw24.ServerOrder'. -/
def serverOrderCard : Claim7 := { stood := { row := serverOrderRow, standIns := [], harness := (true, "3b3a93c7e7684968976ca17d7b40f2669a12a4b1680d47810deb888f1e3fe00b"), looks := true }, kinds := [], alts := [], laidByText := true, laidKinds := [.data, .data, .data, .pinned], laidTests := true, laidLooks := .later }
def ServerOrderCardSaid : Prop := Claim7.holds Tryz.pinned (.plain (OpenSpec.ofChange serverOrderSpec)) serverOrderCard

/-- THE TIED CARD OF 'plumboblaw24.ServerPlays'. -/
def serverPlaysCard : Claim7 := { stood := { row := serverPlaysRow, standIns := [], harness := (true, "3b3a93c7e7684968976ca17d7b40f2669a12a4b1680d47810deb888f1e3fe00b"), looks := true }, kinds := [], alts := [], laidByText := true, laidKinds := [.data, .data, .data, .pinned], laidTests := true, laidLooks := .later }
def ServerPlaysCardSaid : Prop := Claim7.holds Tryz.pinned (.plain (OpenSpec.ofChange serverPlaysSpec)) serverPlaysCard

/-- THE SECOND FORM's CARD OF 'plumboblaw24.ServerOrder'. -/
def serverOrderUptoCard : Claim7 := { stood := { row := serverOrderUptoRow, standIns := [], harness := (true, "3b3a93c7e7684968976ca17d7b40f2669a12a4b1680d47810deb888f1e3fe00b"), looks := true }, kinds := [], alts := [], laidByText := true, laidKinds := [.data, .data, .data, .pinned], laidTests := true, laidLooks := .later }
def ServerOrderUptoCardSaid : Prop := Claim7.holds Tryz.pinned (.plain (OpenSpec.upto serverOrderSpec)) serverOrderUptoCard

/-- THE SECOND FORM's CARD OF 'plumboblaw24.ServerPlays'. -/
def serverPlaysUptoCard : Claim7 := { stood := { row := serverPlaysUptoRow, standIns := [], harness := (true, "3b3a93c7e7684968976ca17d7b40f2669a12a4b1680d47810deb888f1e3fe00b"), looks := true }, kinds := [], alts := [], laidByText := true, laidKinds := [.data, .data, .data, .pinned], laidTests := true, laidLooks := .later }
def ServerPlaysUptoCardSaid : Prop := Claim7.holds Tryz.pinned (.plain (OpenSpec.upto serverPlaysSpec)) serverPlaysUptoCard
end Rows
end Go.Proofs.YtllnfioplpipiaaGreatDoor
