/-
  NARROWER THAN 'FOR EVERY INPUT', by the rows' own cells (each row's printed sentence says how): ShaSums: laid · ShaHex: laid · ShaStreams: laid · MerkleRoots: laid · MerkleCounts: laid · MerkleHalves: laid · WindowOf: laid · WindowMeets: laid · WindowPrefix: laid · WotsWalks: laid · WotsSigns: laid.
  DERIVED. THE GIVEN ROWS OF THIS SEAT. 11 by the template 'for every input the law returns true; each argument reads behind the call as it read before'; 0 by the template 'total and deterministic' (their statements: YtadckkaepngloaaDoorTotals.lean).
  GIVEN WITH THE SEED: the statements are not yours to turn. If you find one false, say at which input.
  Laid BY PROGRAM, IN A SANDBOX (cutbox-rows.mjs): the forced cells as the released guide's own fill.sh prints them over the translation fc8f42c6e5a5642b… (all of the seat's roots in one cut). By AI agents, Wed Nov 11 2026. No macro, syntax, notation, axiom, sorry.
-/
import Derived.Test.YtadckkaepngloaaDoorChecked
import GoSem.Claim
import GoSem.ClaimJoined
import GoSem.ClaimMapViews
import Derived.JoinedTies
import Derived.KernelRfl
namespace Go.Proofs.YtadckkaepngloaaDoor
/- THE CELL 'sum', in the pinned program and in every row, IS THE sha256 OF THE DUMP (.gsa) THAT YtadckkaepngloaaDoorProg.lean LOADS. Nothing in Lean hashes anything: it is a label: what it is worth is what the hold of that sum in a sandbox is worth. -/
noncomputable def Tryd.pinned : Pinned := { name := "ytadckkaepngloaadoor", sum := "fc8f42c6e5a5642beb51475035b5d8852ef0df7a785aa07813dcf5e34b935d63", checked := Tryd.checked }
namespace Rows
def none {H : Type} : Left H := { results := [], args := [] }

/- WHAT THE LISTED PACKAGE-LEVEL VARIABLES READ AS WHEN THE CALL BEGINS. Each datum BY PROGRAM (the guide's laid-datum.mjs) off the statement by which the dump's own 'gosem.cut.vars' lays the variable. In a bare row this is a premise. The card (YtadckkaepngloaaDoorCards.lean) ties it to the program's text. -/
def laid_plumbob_sha_constants {H : Type} : DataW H := .agg [.lit (.int .u32 1116352408), .lit (.int .u32 1899447441), .lit (.int .u32 3049323471), .lit (.int .u32 3921009573), .lit (.int .u32 961987163), .lit (.int .u32 1508970993), .lit (.int .u32 2453635748), .lit (.int .u32 2870763221), .lit (.int .u32 3624381080), .lit (.int .u32 310598401), .lit (.int .u32 607225278), .lit (.int .u32 1426881987), .lit (.int .u32 1925078388), .lit (.int .u32 2162078206), .lit (.int .u32 2614888103), .lit (.int .u32 3248222580), .lit (.int .u32 3835390401), .lit (.int .u32 4022224774), .lit (.int .u32 264347078), .lit (.int .u32 604807628), .lit (.int .u32 770255983), .lit (.int .u32 1249150122), .lit (.int .u32 1555081692), .lit (.int .u32 1996064986), .lit (.int .u32 2554220882), .lit (.int .u32 2821834349), .lit (.int .u32 2952996808), .lit (.int .u32 3210313671), .lit (.int .u32 3336571891), .lit (.int .u32 3584528711), .lit (.int .u32 113926993), .lit (.int .u32 338241895), .lit (.int .u32 666307205), .lit (.int .u32 773529912), .lit (.int .u32 1294757372), .lit (.int .u32 1396182291), .lit (.int .u32 1695183700), .lit (.int .u32 1986661051), .lit (.int .u32 2177026350), .lit (.int .u32 2456956037), .lit (.int .u32 2730485921), .lit (.int .u32 2820302411), .lit (.int .u32 3259730800), .lit (.int .u32 3345764771), .lit (.int .u32 3516065817), .lit (.int .u32 3600352804), .lit (.int .u32 4094571909), .lit (.int .u32 275423344), .lit (.int .u32 430227734), .lit (.int .u32 506948616), .lit (.int .u32 659060556), .lit (.int .u32 883997877), .lit (.int .u32 958139571), .lit (.int .u32 1322822218), .lit (.int .u32 1537002063), .lit (.int .u32 1747873779), .lit (.int .u32 1955562222), .lit (.int .u32 2024104815), .lit (.int .u32 2227730452), .lit (.int .u32 2361852424), .lit (.int .u32 2428436474), .lit (.int .u32 2756734187), .lit (.int .u32 3204031479), .lit (.int .u32 3329325298)]

/-- 'plumboblaw03.ShaSums': WHATEVER THE INPUT: true; the input reads as it did. -/
def shaSumsSpec : ChangeSpec := { name := "shaSums", fn := fun _ => fun
  | [d1, d2] => { results := [.lit (.bool true)], args := [d1, d2] }
  | _ => none }
def shaSumsRow : OpenClaim := { program := "ytadckkaepngloaadoor", sum := "fc8f42c6e5a5642beb51475035b5d8852ef0df7a785aa07813dcf5e34b935d63", func := "plumbob/plumboblaw03.ShaSums", spec := "shaSums", inPlace := ["internal/abi.NoEscape", "internal/bytealg.MakeNoZero"], named := ["plumbob/sha.constants"], apart := false, laid := [("plumbob/sha.constants", laid_plumbob_sha_constants)] }
def ShaSumsSaid : Prop := shaSumsRow.holds Tryd.pinned (OpenSpec.ofChange shaSumsSpec)

/-- ITS FALSE NEIGHBOUR: 'it returns false'. Refute it at one input. -/
def shaSumsWrong : ChangeSpec := { name := "shaSums", fn := fun _ => fun
  | [d1, d2] => { results := [.lit (.bool false)], args := [d1, d2] }
  | _ => none }
def ShaSumsWrongFalsely : Prop := shaSumsRow.holds Tryd.pinned (OpenSpec.ofChange shaSumsWrong)

/-- 'plumboblaw03.ShaHex': WHATEVER THE INPUT: true; the input reads as it did. -/
def shaHexSpec : ChangeSpec := { name := "shaHex", fn := fun _ => fun
  | [d] => { results := [.lit (.bool true)], args := [d] }
  | _ => none }
def shaHexRow : OpenClaim := { program := "ytadckkaepngloaadoor", sum := "fc8f42c6e5a5642beb51475035b5d8852ef0df7a785aa07813dcf5e34b935d63", func := "plumbob/plumboblaw03.ShaHex", spec := "shaHex", inPlace := ["internal/abi.NoEscape", "internal/bytealg.MakeNoZero"], named := ["plumbob/sha.constants"], apart := false, laid := [("plumbob/sha.constants", laid_plumbob_sha_constants)] }
def ShaHexSaid : Prop := shaHexRow.holds Tryd.pinned (OpenSpec.ofChange shaHexSpec)

/-- ITS FALSE NEIGHBOUR: 'it returns false'. Refute it at one input. -/
def shaHexWrong : ChangeSpec := { name := "shaHex", fn := fun _ => fun
  | [d] => { results := [.lit (.bool false)], args := [d] }
  | _ => none }
def ShaHexWrongFalsely : Prop := shaHexRow.holds Tryd.pinned (OpenSpec.ofChange shaHexWrong)

/-- 'plumboblaw03.ShaStreams': WHATEVER THE INPUT: true; the input reads as it did. -/
def shaStreamsSpec : ChangeSpec := { name := "shaStreams", fn := fun _ => fun
  | [d1, d2] => { results := [.lit (.bool true)], args := [d1, d2] }
  | _ => none }
def shaStreamsRow : OpenClaim := { program := "ytadckkaepngloaadoor", sum := "fc8f42c6e5a5642beb51475035b5d8852ef0df7a785aa07813dcf5e34b935d63", func := "plumbob/plumboblaw03.ShaStreams", spec := "shaStreams", inPlace := ["internal/abi.NoEscape", "internal/bytealg.MakeNoZero"], named := ["plumbob/sha.constants"], apart := false, laid := [("plumbob/sha.constants", laid_plumbob_sha_constants)] }
def ShaStreamsSaid : Prop := shaStreamsRow.holds Tryd.pinned (OpenSpec.ofChange shaStreamsSpec)

/-- ITS FALSE NEIGHBOUR: 'it returns false'. Refute it at one input. -/
def shaStreamsWrong : ChangeSpec := { name := "shaStreams", fn := fun _ => fun
  | [d1, d2] => { results := [.lit (.bool false)], args := [d1, d2] }
  | _ => none }
def ShaStreamsWrongFalsely : Prop := shaStreamsRow.holds Tryd.pinned (OpenSpec.ofChange shaStreamsWrong)

/-- 'plumboblaw07.MerkleRoots': WHATEVER THE INPUT: true; the input reads as it did. -/
def merkleRootsSpec : ChangeSpec := { name := "merkleRoots", fn := fun _ => fun
  | [d1, d2, d3] => { results := [.lit (.bool true)], args := [d1, d2, d3] }
  | _ => none }
def merkleRootsRow : OpenClaim := { program := "ytadckkaepngloaadoor", sum := "fc8f42c6e5a5642beb51475035b5d8852ef0df7a785aa07813dcf5e34b935d63", func := "plumbob/plumboblaw07.MerkleRoots", spec := "merkleRoots", inPlace := ["internal/abi.NoEscape", "internal/bytealg.MakeNoZero"], recurses := true, named := ["plumbob/sha.constants"], apart := false, laid := [("plumbob/sha.constants", laid_plumbob_sha_constants)] }
def MerkleRootsSaid : Prop := merkleRootsRow.holds Tryd.pinned (OpenSpec.ofChange merkleRootsSpec)

/-- ITS FALSE NEIGHBOUR: 'it returns false'. Refute it at one input. -/
def merkleRootsWrong : ChangeSpec := { name := "merkleRoots", fn := fun _ => fun
  | [d1, d2, d3] => { results := [.lit (.bool false)], args := [d1, d2, d3] }
  | _ => none }
def MerkleRootsWrongFalsely : Prop := merkleRootsRow.holds Tryd.pinned (OpenSpec.ofChange merkleRootsWrong)

/-- 'plumboblaw07.MerkleCounts': WHATEVER THE INPUT: true; the input reads as it did. -/
def merkleCountsSpec : ChangeSpec := { name := "merkleCounts", fn := fun _ => fun
  | [d] => { results := [.lit (.bool true)], args := [d] }
  | _ => none }
def merkleCountsRow : OpenClaim := { program := "ytadckkaepngloaadoor", sum := "fc8f42c6e5a5642beb51475035b5d8852ef0df7a785aa07813dcf5e34b935d63", func := "plumbob/plumboblaw07.MerkleCounts", spec := "merkleCounts", inPlace := ["internal/abi.NoEscape", "internal/bytealg.MakeNoZero"], named := ["plumbob/sha.constants"], apart := false, laid := [("plumbob/sha.constants", laid_plumbob_sha_constants)] }
def MerkleCountsSaid : Prop := merkleCountsRow.holds Tryd.pinned (OpenSpec.ofChange merkleCountsSpec)

/-- ITS FALSE NEIGHBOUR: 'it returns false'. Refute it at one input. -/
def merkleCountsWrong : ChangeSpec := { name := "merkleCounts", fn := fun _ => fun
  | [d] => { results := [.lit (.bool false)], args := [d] }
  | _ => none }
def MerkleCountsWrongFalsely : Prop := merkleCountsRow.holds Tryd.pinned (OpenSpec.ofChange merkleCountsWrong)

/-- 'plumboblaw07.MerkleHalves': WHATEVER THE INPUT: true; the input reads as it did. -/
def merkleHalvesSpec : ChangeSpec := { name := "merkleHalves", fn := fun _ => fun
  | [d1, d2, d3] => { results := [.lit (.bool true)], args := [d1, d2, d3] }
  | _ => none }
def merkleHalvesRow : OpenClaim := { program := "ytadckkaepngloaadoor", sum := "fc8f42c6e5a5642beb51475035b5d8852ef0df7a785aa07813dcf5e34b935d63", func := "plumbob/plumboblaw07.MerkleHalves", spec := "merkleHalves", inPlace := ["internal/abi.NoEscape", "internal/bytealg.MakeNoZero"], named := ["plumbob/sha.constants"], apart := false, laid := [("plumbob/sha.constants", laid_plumbob_sha_constants)] }
def MerkleHalvesSaid : Prop := merkleHalvesRow.holds Tryd.pinned (OpenSpec.ofChange merkleHalvesSpec)

/-- ITS FALSE NEIGHBOUR: 'it returns false'. Refute it at one input. -/
def merkleHalvesWrong : ChangeSpec := { name := "merkleHalves", fn := fun _ => fun
  | [d1, d2, d3] => { results := [.lit (.bool false)], args := [d1, d2, d3] }
  | _ => none }
def MerkleHalvesWrongFalsely : Prop := merkleHalvesRow.holds Tryd.pinned (OpenSpec.ofChange merkleHalvesWrong)

/-- 'plumboblaw21.WindowOf': WHATEVER THE INPUT: true; the input reads as it did. -/
def windowOfSpec : ChangeSpec := { name := "windowOf", fn := fun _ => fun
  | [d1, d2, d3] => { results := [.lit (.bool true)], args := [d1, d2, d3] }
  | _ => none }
def windowOfRow : OpenClaim := { program := "ytadckkaepngloaadoor", sum := "fc8f42c6e5a5642beb51475035b5d8852ef0df7a785aa07813dcf5e34b935d63", func := "plumbob/plumboblaw21.WindowOf", spec := "windowOf", inPlace := ["internal/abi.NoEscape", "internal/bytealg.MakeNoZero"], named := ["plumbob/sha.constants"], apart := false, laid := [("plumbob/sha.constants", laid_plumbob_sha_constants)] }
def WindowOfSaid : Prop := windowOfRow.holds Tryd.pinned (OpenSpec.ofChange windowOfSpec)

/-- ITS FALSE NEIGHBOUR: 'it returns false'. Refute it at one input. -/
def windowOfWrong : ChangeSpec := { name := "windowOf", fn := fun _ => fun
  | [d1, d2, d3] => { results := [.lit (.bool false)], args := [d1, d2, d3] }
  | _ => none }
def WindowOfWrongFalsely : Prop := windowOfRow.holds Tryd.pinned (OpenSpec.ofChange windowOfWrong)

/-- 'plumboblaw21.WindowMeets': WHATEVER THE INPUT: true; the input reads as it did. -/
def windowMeetsSpec : ChangeSpec := { name := "windowMeets", fn := fun _ => fun
  | [d1, d2, d3] => { results := [.lit (.bool true)], args := [d1, d2, d3] }
  | _ => none }
def windowMeetsRow : OpenClaim := { program := "ytadckkaepngloaadoor", sum := "fc8f42c6e5a5642beb51475035b5d8852ef0df7a785aa07813dcf5e34b935d63", func := "plumbob/plumboblaw21.WindowMeets", spec := "windowMeets", inPlace := ["internal/abi.NoEscape", "internal/bytealg.MakeNoZero"], named := ["plumbob/sha.constants"], apart := false, laid := [("plumbob/sha.constants", laid_plumbob_sha_constants)] }
def WindowMeetsSaid : Prop := windowMeetsRow.holds Tryd.pinned (OpenSpec.ofChange windowMeetsSpec)

/-- ITS FALSE NEIGHBOUR: 'it returns false'. Refute it at one input. -/
def windowMeetsWrong : ChangeSpec := { name := "windowMeets", fn := fun _ => fun
  | [d1, d2, d3] => { results := [.lit (.bool false)], args := [d1, d2, d3] }
  | _ => none }
def WindowMeetsWrongFalsely : Prop := windowMeetsRow.holds Tryd.pinned (OpenSpec.ofChange windowMeetsWrong)

/-- 'plumboblaw21.WindowPrefix': WHATEVER THE INPUT: true; the input reads as it did. -/
def windowPrefixSpec : ChangeSpec := { name := "windowPrefix", fn := fun _ => fun
  | [d1, d2] => { results := [.lit (.bool true)], args := [d1, d2] }
  | _ => none }
def windowPrefixRow : OpenClaim := { program := "ytadckkaepngloaadoor", sum := "fc8f42c6e5a5642beb51475035b5d8852ef0df7a785aa07813dcf5e34b935d63", func := "plumbob/plumboblaw21.WindowPrefix", spec := "windowPrefix", inPlace := ["internal/abi.NoEscape", "internal/bytealg.MakeNoZero"], named := ["plumbob/sha.constants"], apart := false, laid := [("plumbob/sha.constants", laid_plumbob_sha_constants)] }
def WindowPrefixSaid : Prop := windowPrefixRow.holds Tryd.pinned (OpenSpec.ofChange windowPrefixSpec)

/-- ITS FALSE NEIGHBOUR: 'it returns false'. Refute it at one input. -/
def windowPrefixWrong : ChangeSpec := { name := "windowPrefix", fn := fun _ => fun
  | [d1, d2] => { results := [.lit (.bool false)], args := [d1, d2] }
  | _ => none }
def WindowPrefixWrongFalsely : Prop := windowPrefixRow.holds Tryd.pinned (OpenSpec.ofChange windowPrefixWrong)

/-- 'plumboblaw06.WotsWalks': WHATEVER THE INPUT: true; the input reads as it did. -/
def wotsWalksSpec : ChangeSpec := { name := "wotsWalks", fn := fun _ => fun
  | [d1, d2, d3] => { results := [.lit (.bool true)], args := [d1, d2, d3] }
  | _ => none }
def wotsWalksRow : OpenClaim := { program := "ytadckkaepngloaadoor", sum := "fc8f42c6e5a5642beb51475035b5d8852ef0df7a785aa07813dcf5e34b935d63", func := "plumbob/plumboblaw06.WotsWalks", spec := "wotsWalks", inPlace := ["internal/abi.NoEscape", "internal/bytealg.MakeNoZero"], named := ["plumbob/sha.constants"], apart := false, laid := [("plumbob/sha.constants", laid_plumbob_sha_constants)] }
def WotsWalksSaid : Prop := wotsWalksRow.holds Tryd.pinned (OpenSpec.ofChange wotsWalksSpec)

/-- ITS FALSE NEIGHBOUR: 'it returns false'. Refute it at one input. -/
def wotsWalksWrong : ChangeSpec := { name := "wotsWalks", fn := fun _ => fun
  | [d1, d2, d3] => { results := [.lit (.bool false)], args := [d1, d2, d3] }
  | _ => none }
def WotsWalksWrongFalsely : Prop := wotsWalksRow.holds Tryd.pinned (OpenSpec.ofChange wotsWalksWrong)

/-- 'plumboblaw06.WotsSigns': WHATEVER THE INPUT: true; the input reads as it did. -/
def wotsSignsSpec : ChangeSpec := { name := "wotsSigns", fn := fun _ => fun
  | [d1, d2, d3] => { results := [.lit (.bool true)], args := [d1, d2, d3] }
  | _ => none }
def wotsSignsRow : OpenClaim := { program := "ytadckkaepngloaadoor", sum := "fc8f42c6e5a5642beb51475035b5d8852ef0df7a785aa07813dcf5e34b935d63", func := "plumbob/plumboblaw06.WotsSigns", spec := "wotsSigns", inPlace := ["internal/abi.NoEscape", "internal/bytealg.MakeNoZero"], named := ["plumbob/sha.constants"], apart := false, laid := [("plumbob/sha.constants", laid_plumbob_sha_constants)] }
def WotsSignsSaid : Prop := wotsSignsRow.holds Tryd.pinned (OpenSpec.ofChange wotsSignsSpec)

/-- ITS FALSE NEIGHBOUR: 'it returns false'. Refute it at one input. -/
def wotsSignsWrong : ChangeSpec := { name := "wotsSigns", fn := fun _ => fun
  | [d1, d2, d3] => { results := [.lit (.bool false)], args := [d1, d2, d3] }
  | _ => none }
def WotsSignsWrongFalsely : Prop := wotsSignsRow.holds Tryd.pinned (OpenSpec.ofChange wotsSignsWrong)

/- THE SECOND FORM. 'bulk': how many values and letters a reading holds, each counted each time it is reached (what is shared counts as often as it is met; a slice's spare places count too). A statement '..UptoSaid' is the law's where the arguments, and the package variables that the reading takes, are together of bulk at most 1048576: NARROWER than '..Said'. Prove '..Said' where nothing that the law and all that it calls make is longer than what came in: it says more and counts as full. Else prove '..UptoSaid'. A law counts once. -/
mutual
def uptoBulk {H : Type} : DataW H → Nat
  | .lit (.string bytes) => bytes.length + 1
  | .lit _ => 1
  | .nil => 1
  | .ptr d => uptoBulk d + 1
  | .slice elems spare => uptoBulkAll elems + uptoBulkAll spare + 1
  | .agg parts => uptoBulkAll parts + 1
  | .iface _ d => uptoBulk d + 1
  | .map entries => uptoBulkEntries entries + 1
  | .held _ => 1
def uptoBulkAll {H : Type} : List (DataW H) → Nat
  | [] => 0
  | d :: r => uptoBulk d + uptoBulkAll r
def uptoBulkEntries {H : Type} : List (Lit × DataW H) → Nat
  | [] => 0
  | x :: r => uptoBulkEntry x + uptoBulkEntries r
def uptoBulkEntry {H : Type} : Lit × DataW H → Nat
  | (.string bytes, d) => bytes.length + uptoBulk d + 1
  | (_, d) => uptoBulk d + 1
 end
def uptoSmall : (H : Type) → List (DataW H) → Bool := fun _ ds => decide (uptoBulkAll ds ≤ 1048576)
def OpenSpec.upto (s : _root_.Go.ChangeSpec) : _root_.Go.OpenSpec := { _root_.Go.OpenSpec.ofChange s with cond := some uptoSmall }

/-- 'plumboblaw03.ShaSums', WHERE WHAT IT READS IS OF BULK AT MOST 1048576: true; the input reads as it did. -/
def shaSumsUptoRow : OpenClaim := { program := "ytadckkaepngloaadoor", sum := "fc8f42c6e5a5642beb51475035b5d8852ef0df7a785aa07813dcf5e34b935d63", func := "plumbob/plumboblaw03.ShaSums", spec := "shaSums", inPlace := ["internal/abi.NoEscape", "internal/bytealg.MakeNoZero"], named := ["plumbob/sha.constants"], apart := false, laid := [("plumbob/sha.constants", laid_plumbob_sha_constants)], narrowed := true }
def ShaSumsUptoSaid : Prop := shaSumsUptoRow.holds Tryd.pinned (OpenSpec.upto shaSumsSpec)

/-- 'plumboblaw03.ShaHex', WHERE WHAT IT READS IS OF BULK AT MOST 1048576: true; the input reads as it did. -/
def shaHexUptoRow : OpenClaim := { program := "ytadckkaepngloaadoor", sum := "fc8f42c6e5a5642beb51475035b5d8852ef0df7a785aa07813dcf5e34b935d63", func := "plumbob/plumboblaw03.ShaHex", spec := "shaHex", inPlace := ["internal/abi.NoEscape", "internal/bytealg.MakeNoZero"], named := ["plumbob/sha.constants"], apart := false, laid := [("plumbob/sha.constants", laid_plumbob_sha_constants)], narrowed := true }
def ShaHexUptoSaid : Prop := shaHexUptoRow.holds Tryd.pinned (OpenSpec.upto shaHexSpec)

/-- 'plumboblaw03.ShaStreams', WHERE WHAT IT READS IS OF BULK AT MOST 1048576: true; the input reads as it did. -/
def shaStreamsUptoRow : OpenClaim := { program := "ytadckkaepngloaadoor", sum := "fc8f42c6e5a5642beb51475035b5d8852ef0df7a785aa07813dcf5e34b935d63", func := "plumbob/plumboblaw03.ShaStreams", spec := "shaStreams", inPlace := ["internal/abi.NoEscape", "internal/bytealg.MakeNoZero"], named := ["plumbob/sha.constants"], apart := false, laid := [("plumbob/sha.constants", laid_plumbob_sha_constants)], narrowed := true }
def ShaStreamsUptoSaid : Prop := shaStreamsUptoRow.holds Tryd.pinned (OpenSpec.upto shaStreamsSpec)

/-- 'plumboblaw07.MerkleRoots', WHERE WHAT IT READS IS OF BULK AT MOST 1048576: true; the input reads as it did. -/
def merkleRootsUptoRow : OpenClaim := { program := "ytadckkaepngloaadoor", sum := "fc8f42c6e5a5642beb51475035b5d8852ef0df7a785aa07813dcf5e34b935d63", func := "plumbob/plumboblaw07.MerkleRoots", spec := "merkleRoots", inPlace := ["internal/abi.NoEscape", "internal/bytealg.MakeNoZero"], recurses := true, named := ["plumbob/sha.constants"], apart := false, laid := [("plumbob/sha.constants", laid_plumbob_sha_constants)], narrowed := true }
def MerkleRootsUptoSaid : Prop := merkleRootsUptoRow.holds Tryd.pinned (OpenSpec.upto merkleRootsSpec)

/-- 'plumboblaw07.MerkleCounts', WHERE WHAT IT READS IS OF BULK AT MOST 1048576: true; the input reads as it did. -/
def merkleCountsUptoRow : OpenClaim := { program := "ytadckkaepngloaadoor", sum := "fc8f42c6e5a5642beb51475035b5d8852ef0df7a785aa07813dcf5e34b935d63", func := "plumbob/plumboblaw07.MerkleCounts", spec := "merkleCounts", inPlace := ["internal/abi.NoEscape", "internal/bytealg.MakeNoZero"], named := ["plumbob/sha.constants"], apart := false, laid := [("plumbob/sha.constants", laid_plumbob_sha_constants)], narrowed := true }
def MerkleCountsUptoSaid : Prop := merkleCountsUptoRow.holds Tryd.pinned (OpenSpec.upto merkleCountsSpec)

/-- 'plumboblaw07.MerkleHalves', WHERE WHAT IT READS IS OF BULK AT MOST 1048576: true; the input reads as it did. -/
def merkleHalvesUptoRow : OpenClaim := { program := "ytadckkaepngloaadoor", sum := "fc8f42c6e5a5642beb51475035b5d8852ef0df7a785aa07813dcf5e34b935d63", func := "plumbob/plumboblaw07.MerkleHalves", spec := "merkleHalves", inPlace := ["internal/abi.NoEscape", "internal/bytealg.MakeNoZero"], named := ["plumbob/sha.constants"], apart := false, laid := [("plumbob/sha.constants", laid_plumbob_sha_constants)], narrowed := true }
def MerkleHalvesUptoSaid : Prop := merkleHalvesUptoRow.holds Tryd.pinned (OpenSpec.upto merkleHalvesSpec)

/-- 'plumboblaw21.WindowOf', WHERE WHAT IT READS IS OF BULK AT MOST 1048576: true; the input reads as it did. -/
def windowOfUptoRow : OpenClaim := { program := "ytadckkaepngloaadoor", sum := "fc8f42c6e5a5642beb51475035b5d8852ef0df7a785aa07813dcf5e34b935d63", func := "plumbob/plumboblaw21.WindowOf", spec := "windowOf", inPlace := ["internal/abi.NoEscape", "internal/bytealg.MakeNoZero"], named := ["plumbob/sha.constants"], apart := false, laid := [("plumbob/sha.constants", laid_plumbob_sha_constants)], narrowed := true }
def WindowOfUptoSaid : Prop := windowOfUptoRow.holds Tryd.pinned (OpenSpec.upto windowOfSpec)

/-- 'plumboblaw21.WindowMeets', WHERE WHAT IT READS IS OF BULK AT MOST 1048576: true; the input reads as it did. -/
def windowMeetsUptoRow : OpenClaim := { program := "ytadckkaepngloaadoor", sum := "fc8f42c6e5a5642beb51475035b5d8852ef0df7a785aa07813dcf5e34b935d63", func := "plumbob/plumboblaw21.WindowMeets", spec := "windowMeets", inPlace := ["internal/abi.NoEscape", "internal/bytealg.MakeNoZero"], named := ["plumbob/sha.constants"], apart := false, laid := [("plumbob/sha.constants", laid_plumbob_sha_constants)], narrowed := true }
def WindowMeetsUptoSaid : Prop := windowMeetsUptoRow.holds Tryd.pinned (OpenSpec.upto windowMeetsSpec)

/-- 'plumboblaw21.WindowPrefix', WHERE WHAT IT READS IS OF BULK AT MOST 1048576: true; the input reads as it did. -/
def windowPrefixUptoRow : OpenClaim := { program := "ytadckkaepngloaadoor", sum := "fc8f42c6e5a5642beb51475035b5d8852ef0df7a785aa07813dcf5e34b935d63", func := "plumbob/plumboblaw21.WindowPrefix", spec := "windowPrefix", inPlace := ["internal/abi.NoEscape", "internal/bytealg.MakeNoZero"], named := ["plumbob/sha.constants"], apart := false, laid := [("plumbob/sha.constants", laid_plumbob_sha_constants)], narrowed := true }
def WindowPrefixUptoSaid : Prop := windowPrefixUptoRow.holds Tryd.pinned (OpenSpec.upto windowPrefixSpec)

/-- 'plumboblaw06.WotsWalks', WHERE WHAT IT READS IS OF BULK AT MOST 1048576: true; the input reads as it did. -/
def wotsWalksUptoRow : OpenClaim := { program := "ytadckkaepngloaadoor", sum := "fc8f42c6e5a5642beb51475035b5d8852ef0df7a785aa07813dcf5e34b935d63", func := "plumbob/plumboblaw06.WotsWalks", spec := "wotsWalks", inPlace := ["internal/abi.NoEscape", "internal/bytealg.MakeNoZero"], named := ["plumbob/sha.constants"], apart := false, laid := [("plumbob/sha.constants", laid_plumbob_sha_constants)], narrowed := true }
def WotsWalksUptoSaid : Prop := wotsWalksUptoRow.holds Tryd.pinned (OpenSpec.upto wotsWalksSpec)

/-- 'plumboblaw06.WotsSigns', WHERE WHAT IT READS IS OF BULK AT MOST 1048576: true; the input reads as it did. -/
def wotsSignsUptoRow : OpenClaim := { program := "ytadckkaepngloaadoor", sum := "fc8f42c6e5a5642beb51475035b5d8852ef0df7a785aa07813dcf5e34b935d63", func := "plumbob/plumboblaw06.WotsSigns", spec := "wotsSigns", inPlace := ["internal/abi.NoEscape", "internal/bytealg.MakeNoZero"], named := ["plumbob/sha.constants"], apart := false, laid := [("plumbob/sha.constants", laid_plumbob_sha_constants)], narrowed := true }
def WotsSignsUptoSaid : Prop := wotsSignsUptoRow.holds Tryd.pinned (OpenSpec.upto wotsSignsSpec)

end Rows
end Go.Proofs.YtadckkaepngloaaDoor
