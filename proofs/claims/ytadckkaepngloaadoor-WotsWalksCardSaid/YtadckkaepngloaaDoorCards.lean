/-
  DERIVED. GIVEN WITH THE SEED: THE CARDS: each row of YtadckkaepngloaaDoorRows.lean that lists a variable, with what it lists TIED to the program's text (the seventh form; the later family's looks); each row that meets fmt, with fmt's text TOLD by the authors' own Lean function (tested against real Go, not proved from fmt's source: count such statements apart). THE CARD IS WHAT COUNTS. Prove the row's statement (the work); the ties are given (YtadckkaepngloaaDoorTie.lean); close each card by the builder's one call (the guide's Derived/Test/ToyasCard.lean, 'card_holds'). Laid BY PROGRAM, IN A SANDBOX (cutbox-door.mjs). By AI agents, Wed Nov 11 2026. No macro, syntax, notation, axiom, sorry.
-/
import Derived.Test.YtadckkaepngloaaDoorRows
import GoSem.ClaimSeven
namespace Go.Proofs.YtadckkaepngloaaDoor
namespace Rows

/-- THE TIED CARD OF 'plumboblaw03.ShaSums'. -/
def shaSumsCard : Claim7 := { stood := { row := shaSumsRow, standIns := [], harness := (true, "0504ce21045beaad456f7607c6d29b40012271e5a79dbb23bb3cbe17a2079d13"), looks := false }, kinds := [], alts := [], laidByText := true, laidKinds := [.data], laidTests := true, laidLooks := .later }
def ShaSumsCardSaid : Prop := Claim7.holds Tryd.pinned (.plain (OpenSpec.ofChange shaSumsSpec)) shaSumsCard

/-- THE TIED CARD OF 'plumboblaw03.ShaHex'. -/
def shaHexCard : Claim7 := { stood := { row := shaHexRow, standIns := [], harness := (true, "0504ce21045beaad456f7607c6d29b40012271e5a79dbb23bb3cbe17a2079d13"), looks := false }, kinds := [], alts := [], laidByText := true, laidKinds := [.data], laidTests := true, laidLooks := .later }
def ShaHexCardSaid : Prop := Claim7.holds Tryd.pinned (.plain (OpenSpec.ofChange shaHexSpec)) shaHexCard

/-- THE TIED CARD OF 'plumboblaw03.ShaStreams'. -/
def shaStreamsCard : Claim7 := { stood := { row := shaStreamsRow, standIns := [], harness := (true, "0504ce21045beaad456f7607c6d29b40012271e5a79dbb23bb3cbe17a2079d13"), looks := false }, kinds := [], alts := [], laidByText := true, laidKinds := [.data], laidTests := true, laidLooks := .later }
def ShaStreamsCardSaid : Prop := Claim7.holds Tryd.pinned (.plain (OpenSpec.ofChange shaStreamsSpec)) shaStreamsCard

/-- THE TIED CARD OF 'plumboblaw07.MerkleRoots'. -/
def merkleRootsCard : Claim7 := { stood := { row := merkleRootsRow, standIns := [], harness := (true, "0504ce21045beaad456f7607c6d29b40012271e5a79dbb23bb3cbe17a2079d13"), looks := false }, kinds := [], alts := [], laidByText := true, laidKinds := [.data], laidTests := true, laidLooks := .later }
def MerkleRootsCardSaid : Prop := Claim7.holds Tryd.pinned (.plain (OpenSpec.ofChange merkleRootsSpec)) merkleRootsCard

/-- THE TIED CARD OF 'plumboblaw07.MerkleCounts'. -/
def merkleCountsCard : Claim7 := { stood := { row := merkleCountsRow, standIns := [], harness := (true, "0504ce21045beaad456f7607c6d29b40012271e5a79dbb23bb3cbe17a2079d13"), looks := false }, kinds := [], alts := [], laidByText := true, laidKinds := [.data], laidTests := true, laidLooks := .later }
def MerkleCountsCardSaid : Prop := Claim7.holds Tryd.pinned (.plain (OpenSpec.ofChange merkleCountsSpec)) merkleCountsCard

/-- THE TIED CARD OF 'plumboblaw07.MerkleHalves'. -/
def merkleHalvesCard : Claim7 := { stood := { row := merkleHalvesRow, standIns := [], harness := (true, "0504ce21045beaad456f7607c6d29b40012271e5a79dbb23bb3cbe17a2079d13"), looks := false }, kinds := [], alts := [], laidByText := true, laidKinds := [.data], laidTests := true, laidLooks := .later }
def MerkleHalvesCardSaid : Prop := Claim7.holds Tryd.pinned (.plain (OpenSpec.ofChange merkleHalvesSpec)) merkleHalvesCard

/-- THE TIED CARD OF 'plumboblaw21.WindowOf'. -/
def windowOfCard : Claim7 := { stood := { row := windowOfRow, standIns := [], harness := (true, "0504ce21045beaad456f7607c6d29b40012271e5a79dbb23bb3cbe17a2079d13"), looks := false }, kinds := [], alts := [], laidByText := true, laidKinds := [.data], laidTests := true, laidLooks := .later }
def WindowOfCardSaid : Prop := Claim7.holds Tryd.pinned (.plain (OpenSpec.ofChange windowOfSpec)) windowOfCard

/-- THE TIED CARD OF 'plumboblaw21.WindowMeets'. -/
def windowMeetsCard : Claim7 := { stood := { row := windowMeetsRow, standIns := [], harness := (true, "0504ce21045beaad456f7607c6d29b40012271e5a79dbb23bb3cbe17a2079d13"), looks := false }, kinds := [], alts := [], laidByText := true, laidKinds := [.data], laidTests := true, laidLooks := .later }
def WindowMeetsCardSaid : Prop := Claim7.holds Tryd.pinned (.plain (OpenSpec.ofChange windowMeetsSpec)) windowMeetsCard

/-- THE TIED CARD OF 'plumboblaw21.WindowPrefix'. -/
def windowPrefixCard : Claim7 := { stood := { row := windowPrefixRow, standIns := [], harness := (true, "0504ce21045beaad456f7607c6d29b40012271e5a79dbb23bb3cbe17a2079d13"), looks := false }, kinds := [], alts := [], laidByText := true, laidKinds := [.data], laidTests := true, laidLooks := .later }
def WindowPrefixCardSaid : Prop := Claim7.holds Tryd.pinned (.plain (OpenSpec.ofChange windowPrefixSpec)) windowPrefixCard

/-- THE TIED CARD OF 'plumboblaw06.WotsWalks'. -/
def wotsWalksCard : Claim7 := { stood := { row := wotsWalksRow, standIns := [], harness := (true, "0504ce21045beaad456f7607c6d29b40012271e5a79dbb23bb3cbe17a2079d13"), looks := false }, kinds := [], alts := [], laidByText := true, laidKinds := [.data], laidTests := true, laidLooks := .later }
def WotsWalksCardSaid : Prop := Claim7.holds Tryd.pinned (.plain (OpenSpec.ofChange wotsWalksSpec)) wotsWalksCard

/-- THE TIED CARD OF 'plumboblaw06.WotsSigns'. -/
def wotsSignsCard : Claim7 := { stood := { row := wotsSignsRow, standIns := [], harness := (true, "0504ce21045beaad456f7607c6d29b40012271e5a79dbb23bb3cbe17a2079d13"), looks := false }, kinds := [], alts := [], laidByText := true, laidKinds := [.data], laidTests := true, laidLooks := .later }
def WotsSignsCardSaid : Prop := Claim7.holds Tryd.pinned (.plain (OpenSpec.ofChange wotsSignsSpec)) wotsSignsCard

/-- THE SECOND FORM's CARD OF 'plumboblaw03.ShaSums'. -/
def shaSumsUptoCard : Claim7 := { stood := { row := shaSumsUptoRow, standIns := [], harness := (true, "0504ce21045beaad456f7607c6d29b40012271e5a79dbb23bb3cbe17a2079d13"), looks := false }, kinds := [], alts := [], laidByText := true, laidKinds := [.data], laidTests := true, laidLooks := .later }
def ShaSumsUptoCardSaid : Prop := Claim7.holds Tryd.pinned (.plain (OpenSpec.upto shaSumsSpec)) shaSumsUptoCard

/-- THE SECOND FORM's CARD OF 'plumboblaw03.ShaHex'. -/
def shaHexUptoCard : Claim7 := { stood := { row := shaHexUptoRow, standIns := [], harness := (true, "0504ce21045beaad456f7607c6d29b40012271e5a79dbb23bb3cbe17a2079d13"), looks := false }, kinds := [], alts := [], laidByText := true, laidKinds := [.data], laidTests := true, laidLooks := .later }
def ShaHexUptoCardSaid : Prop := Claim7.holds Tryd.pinned (.plain (OpenSpec.upto shaHexSpec)) shaHexUptoCard

/-- THE SECOND FORM's CARD OF 'plumboblaw03.ShaStreams'. -/
def shaStreamsUptoCard : Claim7 := { stood := { row := shaStreamsUptoRow, standIns := [], harness := (true, "0504ce21045beaad456f7607c6d29b40012271e5a79dbb23bb3cbe17a2079d13"), looks := false }, kinds := [], alts := [], laidByText := true, laidKinds := [.data], laidTests := true, laidLooks := .later }
def ShaStreamsUptoCardSaid : Prop := Claim7.holds Tryd.pinned (.plain (OpenSpec.upto shaStreamsSpec)) shaStreamsUptoCard

/-- THE SECOND FORM's CARD OF 'plumboblaw07.MerkleRoots'. -/
def merkleRootsUptoCard : Claim7 := { stood := { row := merkleRootsUptoRow, standIns := [], harness := (true, "0504ce21045beaad456f7607c6d29b40012271e5a79dbb23bb3cbe17a2079d13"), looks := false }, kinds := [], alts := [], laidByText := true, laidKinds := [.data], laidTests := true, laidLooks := .later }
def MerkleRootsUptoCardSaid : Prop := Claim7.holds Tryd.pinned (.plain (OpenSpec.upto merkleRootsSpec)) merkleRootsUptoCard

/-- THE SECOND FORM's CARD OF 'plumboblaw07.MerkleCounts'. -/
def merkleCountsUptoCard : Claim7 := { stood := { row := merkleCountsUptoRow, standIns := [], harness := (true, "0504ce21045beaad456f7607c6d29b40012271e5a79dbb23bb3cbe17a2079d13"), looks := false }, kinds := [], alts := [], laidByText := true, laidKinds := [.data], laidTests := true, laidLooks := .later }
def MerkleCountsUptoCardSaid : Prop := Claim7.holds Tryd.pinned (.plain (OpenSpec.upto merkleCountsSpec)) merkleCountsUptoCard

/-- THE SECOND FORM's CARD OF 'plumboblaw07.MerkleHalves'. -/
def merkleHalvesUptoCard : Claim7 := { stood := { row := merkleHalvesUptoRow, standIns := [], harness := (true, "0504ce21045beaad456f7607c6d29b40012271e5a79dbb23bb3cbe17a2079d13"), looks := false }, kinds := [], alts := [], laidByText := true, laidKinds := [.data], laidTests := true, laidLooks := .later }
def MerkleHalvesUptoCardSaid : Prop := Claim7.holds Tryd.pinned (.plain (OpenSpec.upto merkleHalvesSpec)) merkleHalvesUptoCard

/-- THE SECOND FORM's CARD OF 'plumboblaw21.WindowOf'. -/
def windowOfUptoCard : Claim7 := { stood := { row := windowOfUptoRow, standIns := [], harness := (true, "0504ce21045beaad456f7607c6d29b40012271e5a79dbb23bb3cbe17a2079d13"), looks := false }, kinds := [], alts := [], laidByText := true, laidKinds := [.data], laidTests := true, laidLooks := .later }
def WindowOfUptoCardSaid : Prop := Claim7.holds Tryd.pinned (.plain (OpenSpec.upto windowOfSpec)) windowOfUptoCard

/-- THE SECOND FORM's CARD OF 'plumboblaw21.WindowMeets'. -/
def windowMeetsUptoCard : Claim7 := { stood := { row := windowMeetsUptoRow, standIns := [], harness := (true, "0504ce21045beaad456f7607c6d29b40012271e5a79dbb23bb3cbe17a2079d13"), looks := false }, kinds := [], alts := [], laidByText := true, laidKinds := [.data], laidTests := true, laidLooks := .later }
def WindowMeetsUptoCardSaid : Prop := Claim7.holds Tryd.pinned (.plain (OpenSpec.upto windowMeetsSpec)) windowMeetsUptoCard

/-- THE SECOND FORM's CARD OF 'plumboblaw21.WindowPrefix'. -/
def windowPrefixUptoCard : Claim7 := { stood := { row := windowPrefixUptoRow, standIns := [], harness := (true, "0504ce21045beaad456f7607c6d29b40012271e5a79dbb23bb3cbe17a2079d13"), looks := false }, kinds := [], alts := [], laidByText := true, laidKinds := [.data], laidTests := true, laidLooks := .later }
def WindowPrefixUptoCardSaid : Prop := Claim7.holds Tryd.pinned (.plain (OpenSpec.upto windowPrefixSpec)) windowPrefixUptoCard

/-- THE SECOND FORM's CARD OF 'plumboblaw06.WotsWalks'. -/
def wotsWalksUptoCard : Claim7 := { stood := { row := wotsWalksUptoRow, standIns := [], harness := (true, "0504ce21045beaad456f7607c6d29b40012271e5a79dbb23bb3cbe17a2079d13"), looks := false }, kinds := [], alts := [], laidByText := true, laidKinds := [.data], laidTests := true, laidLooks := .later }
def WotsWalksUptoCardSaid : Prop := Claim7.holds Tryd.pinned (.plain (OpenSpec.upto wotsWalksSpec)) wotsWalksUptoCard

/-- THE SECOND FORM's CARD OF 'plumboblaw06.WotsSigns'. -/
def wotsSignsUptoCard : Claim7 := { stood := { row := wotsSignsUptoRow, standIns := [], harness := (true, "0504ce21045beaad456f7607c6d29b40012271e5a79dbb23bb3cbe17a2079d13"), looks := false }, kinds := [], alts := [], laidByText := true, laidKinds := [.data], laidTests := true, laidLooks := .later }
def WotsSignsUptoCardSaid : Prop := Claim7.holds Tryd.pinned (.plain (OpenSpec.upto wotsSignsSpec)) wotsSignsUptoCard
end Rows
end Go.Proofs.YtadckkaepngloaaDoor
