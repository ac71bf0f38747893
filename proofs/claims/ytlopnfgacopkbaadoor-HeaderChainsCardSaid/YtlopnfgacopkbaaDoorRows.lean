/-
  NARROWER THAN 'FOR EVERY INPUT', by the rows' own cells (each row's printed sentence says how): XmssSigns: laid · EntryHistories: laid · HeaderChains: laid · EntryCodes: laid · EntryParses: laid · XmssCodes: laid · HeaderParses: laid · HeaderCodes: laid · AttestParses: laid.
  DERIVED. THE GIVEN ROWS OF THIS SEAT. 9 by the template 'for every input the law returns true; each argument reads behind the call as it read before'; 0 by the template 'total and deterministic' (their statements: YtlopnfgacopkbaaDoorTotals.lean).
  GIVEN WITH THE SEED: the statements are not yours to turn. If you find one false, say at which input.
  Laid BY PROGRAM, IN A SANDBOX (cutbox-rows.mjs): the forced cells as the released guide's own fill.sh prints them over the translation 88e4f854e8f4358b… (all of the seat's roots in one cut). By AI agents, Wed Nov 11 2026. No macro, syntax, notation, axiom, sorry.
-/
import Derived.Test.YtlopnfgacopkbaaDoorChecked
import GoSem.Claim
import GoSem.ClaimJoined
import GoSem.ClaimMapViews
import Derived.JoinedTies
import Derived.KernelRfl
namespace Go.Proofs.YtlopnfgacopkbaaDoor
/- THE CELL 'sum', in the pinned program and in every row, IS THE sha256 OF THE DUMP (.gsa) THAT YtlopnfgacopkbaaDoorProg.lean LOADS. Nothing in Lean hashes anything: it is a label: what it is worth is what the hold of that sum in a sandbox is worth. -/
noncomputable def Tryd.pinned : Pinned := { name := "ytlopnfgacopkbaadoor", sum := "88e4f854e8f4358b2e50dbdd2b8d5c2973f23d0bd353b4d1107336f9c988850a", checked := Tryd.checked }
namespace Rows
def none {H : Type} : Left H := { results := [], args := [] }

/- WHAT THE LISTED PACKAGE-LEVEL VARIABLES READ AS WHEN THE CALL BEGINS. Each datum BY PROGRAM (the guide's laid-datum.mjs) off the statement by which the dump's own 'gosem.cut.vars' lays the variable. In a bare row this is a premise. The card (YtlopnfgacopkbaaDoorCards.lean) ties it to the program's text. -/
def laid_plumbob_sha_constants {H : Type} : DataW H := .agg [.lit (.int .u32 1116352408), .lit (.int .u32 1899447441), .lit (.int .u32 3049323471), .lit (.int .u32 3921009573), .lit (.int .u32 961987163), .lit (.int .u32 1508970993), .lit (.int .u32 2453635748), .lit (.int .u32 2870763221), .lit (.int .u32 3624381080), .lit (.int .u32 310598401), .lit (.int .u32 607225278), .lit (.int .u32 1426881987), .lit (.int .u32 1925078388), .lit (.int .u32 2162078206), .lit (.int .u32 2614888103), .lit (.int .u32 3248222580), .lit (.int .u32 3835390401), .lit (.int .u32 4022224774), .lit (.int .u32 264347078), .lit (.int .u32 604807628), .lit (.int .u32 770255983), .lit (.int .u32 1249150122), .lit (.int .u32 1555081692), .lit (.int .u32 1996064986), .lit (.int .u32 2554220882), .lit (.int .u32 2821834349), .lit (.int .u32 2952996808), .lit (.int .u32 3210313671), .lit (.int .u32 3336571891), .lit (.int .u32 3584528711), .lit (.int .u32 113926993), .lit (.int .u32 338241895), .lit (.int .u32 666307205), .lit (.int .u32 773529912), .lit (.int .u32 1294757372), .lit (.int .u32 1396182291), .lit (.int .u32 1695183700), .lit (.int .u32 1986661051), .lit (.int .u32 2177026350), .lit (.int .u32 2456956037), .lit (.int .u32 2730485921), .lit (.int .u32 2820302411), .lit (.int .u32 3259730800), .lit (.int .u32 3345764771), .lit (.int .u32 3516065817), .lit (.int .u32 3600352804), .lit (.int .u32 4094571909), .lit (.int .u32 275423344), .lit (.int .u32 430227734), .lit (.int .u32 506948616), .lit (.int .u32 659060556), .lit (.int .u32 883997877), .lit (.int .u32 958139571), .lit (.int .u32 1322822218), .lit (.int .u32 1537002063), .lit (.int .u32 1747873779), .lit (.int .u32 1955562222), .lit (.int .u32 2024104815), .lit (.int .u32 2227730452), .lit (.int .u32 2361852424), .lit (.int .u32 2428436474), .lit (.int .u32 2756734187), .lit (.int .u32 3204031479), .lit (.int .u32 3329325298)]

/-- 'plumboblaw08.XmssSigns': WHATEVER THE INPUT: true; the input reads as it did. -/
def xmssSignsSpec : ChangeSpec := { name := "xmssSigns", fn := fun _ => fun
  | [d1, d2, d3] => { results := [.lit (.bool true)], args := [d1, d2, d3] }
  | _ => none }
def xmssSignsRow : OpenClaim := { program := "ytlopnfgacopkbaadoor", sum := "88e4f854e8f4358b2e50dbdd2b8d5c2973f23d0bd353b4d1107336f9c988850a", func := "plumbob/plumboblaw08.XmssSigns", spec := "xmssSigns", inPlace := ["internal/abi.NoEscape", "internal/bytealg.MakeNoZero"], named := ["plumbob/sha.constants"], apart := false, laid := [("plumbob/sha.constants", laid_plumbob_sha_constants)] }
def XmssSignsSaid : Prop := xmssSignsRow.holds Tryd.pinned (OpenSpec.ofChange xmssSignsSpec)

/-- ITS FALSE NEIGHBOUR: 'it returns false'. Refute it at one input. -/
def xmssSignsWrong : ChangeSpec := { name := "xmssSigns", fn := fun _ => fun
  | [d1, d2, d3] => { results := [.lit (.bool false)], args := [d1, d2, d3] }
  | _ => none }
def XmssSignsWrongFalsely : Prop := xmssSignsRow.holds Tryd.pinned (OpenSpec.ofChange xmssSignsWrong)

/-- 'plumboblaw17.EntryHistories': WHATEVER THE INPUT: true; the input reads as it did. -/
def entryHistoriesSpec : ChangeSpec := { name := "entryHistories", fn := fun _ => fun
  | [d1, d2, d3] => { results := [.lit (.bool true)], args := [d1, d2, d3] }
  | _ => none }
def entryHistoriesRow : OpenClaim := { program := "ytlopnfgacopkbaadoor", sum := "88e4f854e8f4358b2e50dbdd2b8d5c2973f23d0bd353b4d1107336f9c988850a", func := "plumbob/plumboblaw17.EntryHistories", spec := "entryHistories", inPlace := ["internal/abi.NoEscape", "internal/bytealg.MakeNoZero"], named := ["plumbob/sha.constants"], apart := false, laid := [("plumbob/sha.constants", laid_plumbob_sha_constants)] }
def EntryHistoriesSaid : Prop := entryHistoriesRow.holds Tryd.pinned (OpenSpec.ofChange entryHistoriesSpec)

/-- ITS FALSE NEIGHBOUR: 'it returns false'. Refute it at one input. -/
def entryHistoriesWrong : ChangeSpec := { name := "entryHistories", fn := fun _ => fun
  | [d1, d2, d3] => { results := [.lit (.bool false)], args := [d1, d2, d3] }
  | _ => none }
def EntryHistoriesWrongFalsely : Prop := entryHistoriesRow.holds Tryd.pinned (OpenSpec.ofChange entryHistoriesWrong)

/-- 'plumboblaw19.HeaderChains': WHATEVER THE INPUT: true; the input reads as it did. -/
def headerChainsSpec : ChangeSpec := { name := "headerChains", fn := fun _ => fun
  | [d1, d2, d3] => { results := [.lit (.bool true)], args := [d1, d2, d3] }
  | _ => none }
def headerChainsRow : OpenClaim := { program := "ytlopnfgacopkbaadoor", sum := "88e4f854e8f4358b2e50dbdd2b8d5c2973f23d0bd353b4d1107336f9c988850a", func := "plumbob/plumboblaw19.HeaderChains", spec := "headerChains", inPlace := ["internal/abi.NoEscape", "internal/bytealg.MakeNoZero"], unfollowed := true, recurses := true, named := ["plumbob/sha.constants"], apart := false, laid := [("plumbob/sha.constants", laid_plumbob_sha_constants)] }
def HeaderChainsSaid : Prop := headerChainsRow.holds Tryd.pinned (OpenSpec.ofChange headerChainsSpec)

/-- ITS FALSE NEIGHBOUR: 'it returns false'. Refute it at one input. -/
def headerChainsWrong : ChangeSpec := { name := "headerChains", fn := fun _ => fun
  | [d1, d2, d3] => { results := [.lit (.bool false)], args := [d1, d2, d3] }
  | _ => none }
def HeaderChainsWrongFalsely : Prop := headerChainsRow.holds Tryd.pinned (OpenSpec.ofChange headerChainsWrong)

/-- 'plumboblaw17.EntryCodes': WHATEVER THE INPUT: true; the input reads as it did. -/
def entryCodesSpec : ChangeSpec := { name := "entryCodes", fn := fun _ => fun
  | [d1, d2, d3] => { results := [.lit (.bool true)], args := [d1, d2, d3] }
  | _ => none }
def entryCodesRow : OpenClaim := { program := "ytlopnfgacopkbaadoor", sum := "88e4f854e8f4358b2e50dbdd2b8d5c2973f23d0bd353b4d1107336f9c988850a", func := "plumbob/plumboblaw17.EntryCodes", spec := "entryCodes", inPlace := ["internal/abi.NoEscape", "internal/bytealg.MakeNoZero"], named := ["plumbob/sha.constants"], apart := false, laid := [("plumbob/sha.constants", laid_plumbob_sha_constants)] }
def EntryCodesSaid : Prop := entryCodesRow.holds Tryd.pinned (OpenSpec.ofChange entryCodesSpec)

/-- ITS FALSE NEIGHBOUR: 'it returns false'. Refute it at one input. -/
def entryCodesWrong : ChangeSpec := { name := "entryCodes", fn := fun _ => fun
  | [d1, d2, d3] => { results := [.lit (.bool false)], args := [d1, d2, d3] }
  | _ => none }
def EntryCodesWrongFalsely : Prop := entryCodesRow.holds Tryd.pinned (OpenSpec.ofChange entryCodesWrong)

/-- 'plumboblaw17.EntryParses': WHATEVER THE INPUT: true; the input reads as it did. -/
def entryParsesSpec : ChangeSpec := { name := "entryParses", fn := fun _ => fun
  | [d] => { results := [.lit (.bool true)], args := [d] }
  | _ => none }
def entryParsesRow : OpenClaim := { program := "ytlopnfgacopkbaadoor", sum := "88e4f854e8f4358b2e50dbdd2b8d5c2973f23d0bd353b4d1107336f9c988850a", func := "plumbob/plumboblaw17.EntryParses", spec := "entryParses", inPlace := ["internal/abi.NoEscape", "internal/bytealg.MakeNoZero"], named := ["plumbob/sha.constants"], apart := false, laid := [("plumbob/sha.constants", laid_plumbob_sha_constants)] }
def EntryParsesSaid : Prop := entryParsesRow.holds Tryd.pinned (OpenSpec.ofChange entryParsesSpec)

/-- ITS FALSE NEIGHBOUR: 'it returns false'. Refute it at one input. -/
def entryParsesWrong : ChangeSpec := { name := "entryParses", fn := fun _ => fun
  | [d] => { results := [.lit (.bool false)], args := [d] }
  | _ => none }
def EntryParsesWrongFalsely : Prop := entryParsesRow.holds Tryd.pinned (OpenSpec.ofChange entryParsesWrong)

/-- 'plumboblaw08.XmssCodes': WHATEVER THE INPUT: true; the input reads as it did. -/
def xmssCodesSpec : ChangeSpec := { name := "xmssCodes", fn := fun _ => fun
  | [d1, d2, d3] => { results := [.lit (.bool true)], args := [d1, d2, d3] }
  | _ => none }
def xmssCodesRow : OpenClaim := { program := "ytlopnfgacopkbaadoor", sum := "88e4f854e8f4358b2e50dbdd2b8d5c2973f23d0bd353b4d1107336f9c988850a", func := "plumbob/plumboblaw08.XmssCodes", spec := "xmssCodes", inPlace := ["internal/abi.NoEscape", "internal/bytealg.MakeNoZero"], named := ["plumbob/sha.constants"], apart := false, laid := [("plumbob/sha.constants", laid_plumbob_sha_constants)] }
def XmssCodesSaid : Prop := xmssCodesRow.holds Tryd.pinned (OpenSpec.ofChange xmssCodesSpec)

/-- ITS FALSE NEIGHBOUR: 'it returns false'. Refute it at one input. -/
def xmssCodesWrong : ChangeSpec := { name := "xmssCodes", fn := fun _ => fun
  | [d1, d2, d3] => { results := [.lit (.bool false)], args := [d1, d2, d3] }
  | _ => none }
def XmssCodesWrongFalsely : Prop := xmssCodesRow.holds Tryd.pinned (OpenSpec.ofChange xmssCodesWrong)

/-- 'plumboblaw19.HeaderParses': WHATEVER THE INPUT: true; the input reads as it did. -/
def headerParsesSpec : ChangeSpec := { name := "headerParses", fn := fun _ => fun
  | [d1, d2, d3] => { results := [.lit (.bool true)], args := [d1, d2, d3] }
  | _ => none }
def headerParsesRow : OpenClaim := { program := "ytlopnfgacopkbaadoor", sum := "88e4f854e8f4358b2e50dbdd2b8d5c2973f23d0bd353b4d1107336f9c988850a", func := "plumbob/plumboblaw19.HeaderParses", spec := "headerParses", inPlace := ["internal/abi.NoEscape", "internal/bytealg.MakeNoZero"], unfollowed := true, recurses := true, named := ["plumbob/sha.constants"], apart := false, laid := [("plumbob/sha.constants", laid_plumbob_sha_constants)] }
def HeaderParsesSaid : Prop := headerParsesRow.holds Tryd.pinned (OpenSpec.ofChange headerParsesSpec)

/-- ITS FALSE NEIGHBOUR: 'it returns false'. Refute it at one input. -/
def headerParsesWrong : ChangeSpec := { name := "headerParses", fn := fun _ => fun
  | [d1, d2, d3] => { results := [.lit (.bool false)], args := [d1, d2, d3] }
  | _ => none }
def HeaderParsesWrongFalsely : Prop := headerParsesRow.holds Tryd.pinned (OpenSpec.ofChange headerParsesWrong)

/-- 'plumboblaw19.HeaderCodes': WHATEVER THE INPUT: true; the input reads as it did. -/
def headerCodesSpec : ChangeSpec := { name := "headerCodes", fn := fun _ => fun
  | [d] => { results := [.lit (.bool true)], args := [d] }
  | _ => none }
def headerCodesRow : OpenClaim := { program := "ytlopnfgacopkbaadoor", sum := "88e4f854e8f4358b2e50dbdd2b8d5c2973f23d0bd353b4d1107336f9c988850a", func := "plumbob/plumboblaw19.HeaderCodes", spec := "headerCodes", inPlace := ["internal/abi.NoEscape", "internal/bytealg.MakeNoZero"], unfollowed := true, recurses := true, named := ["plumbob/sha.constants"], apart := false, laid := [("plumbob/sha.constants", laid_plumbob_sha_constants)] }
def HeaderCodesSaid : Prop := headerCodesRow.holds Tryd.pinned (OpenSpec.ofChange headerCodesSpec)

/-- ITS FALSE NEIGHBOUR: 'it returns false'. Refute it at one input. -/
def headerCodesWrong : ChangeSpec := { name := "headerCodes", fn := fun _ => fun
  | [d] => { results := [.lit (.bool false)], args := [d] }
  | _ => none }
def HeaderCodesWrongFalsely : Prop := headerCodesRow.holds Tryd.pinned (OpenSpec.ofChange headerCodesWrong)

/-- 'plumboblaw22.AttestParses': WHATEVER THE INPUT: true; the input reads as it did. -/
def attestParsesSpec : ChangeSpec := { name := "attestParses", fn := fun _ => fun
  | [d1, d2, d3] => { results := [.lit (.bool true)], args := [d1, d2, d3] }
  | _ => none }
def attestParsesRow : OpenClaim := { program := "ytlopnfgacopkbaadoor", sum := "88e4f854e8f4358b2e50dbdd2b8d5c2973f23d0bd353b4d1107336f9c988850a", func := "plumbob/plumboblaw22.AttestParses", spec := "attestParses", inPlace := ["internal/abi.NoEscape", "internal/bytealg.MakeNoZero"], named := ["plumbob/sha.constants"], apart := false, laid := [("plumbob/sha.constants", laid_plumbob_sha_constants)] }
def AttestParsesSaid : Prop := attestParsesRow.holds Tryd.pinned (OpenSpec.ofChange attestParsesSpec)

/-- ITS FALSE NEIGHBOUR: 'it returns false'. Refute it at one input. -/
def attestParsesWrong : ChangeSpec := { name := "attestParses", fn := fun _ => fun
  | [d1, d2, d3] => { results := [.lit (.bool false)], args := [d1, d2, d3] }
  | _ => none }
def AttestParsesWrongFalsely : Prop := attestParsesRow.holds Tryd.pinned (OpenSpec.ofChange attestParsesWrong)

/- THE SECOND FORM. 'bulk': how many values and letters a reading holds, each counted each time it is reached (what is shared counts as often as it is met; a slice's spare places count too). A statement '..UptoSaid' is the law's where the arguments, and the package variables that the reading takes, are together of bulk at most 1048576: NARROWER than '..Said'. Prove '..Said' where nothing that the law and all that it calls make is longer than what came in: it says more and counts as full. Else prove '..UptoSaid'. A law counts once. -/
mutual
def uptoBulk {H : Type} : DataW H → Nat
  | .lit (.string bytes) => bytes.length + 1
  | .lit _ => 1
  | .nil => 1
  | .ptr d => uptoBulk d + 1
  | .slice elems spare => uptoBulkAll elems + uptoBulkAll spare + 1
  | .agg parts => uptoBulkAll parts + 1
  | .iface _ d => uptoBulk d + 1
  | .map entries => uptoBulkEntries entries + 1
  | .held _ => 1
def uptoBulkAll {H : Type} : List (DataW H) → Nat
  | [] => 0
  | d :: r => uptoBulk d + uptoBulkAll r
def uptoBulkEntries {H : Type} : List (Lit × DataW H) → Nat
  | [] => 0
  | x :: r => uptoBulkEntry x + uptoBulkEntries r
def uptoBulkEntry {H : Type} : Lit × DataW H → Nat
  | (.string bytes, d) => bytes.length + uptoBulk d + 1
  | (_, d) => uptoBulk d + 1
 end
def uptoSmall : (H : Type) → List (DataW H) → Bool := fun _ ds => decide (uptoBulkAll ds ≤ 1048576)
def OpenSpec.upto (s : _root_.Go.ChangeSpec) : _root_.Go.OpenSpec := { _root_.Go.OpenSpec.ofChange s with cond := some uptoSmall }

/-- 'plumboblaw08.XmssSigns', WHERE WHAT IT READS IS OF BULK AT MOST 1048576: true; the input reads as it did. -/
def xmssSignsUptoRow : OpenClaim := { program := "ytlopnfgacopkbaadoor", sum := "88e4f854e8f4358b2e50dbdd2b8d5c2973f23d0bd353b4d1107336f9c988850a", func := "plumbob/plumboblaw08.XmssSigns", spec := "xmssSigns", inPlace := ["internal/abi.NoEscape", "internal/bytealg.MakeNoZero"], named := ["plumbob/sha.constants"], apart := false, laid := [("plumbob/sha.constants", laid_plumbob_sha_constants)], narrowed := true }
def XmssSignsUptoSaid : Prop := xmssSignsUptoRow.holds Tryd.pinned (OpenSpec.upto xmssSignsSpec)

/-- 'plumboblaw17.EntryHistories', WHERE WHAT IT READS IS OF BULK AT MOST 1048576: true; the input reads as it did. -/
def entryHistoriesUptoRow : OpenClaim := { program := "ytlopnfgacopkbaadoor", sum := "88e4f854e8f4358b2e50dbdd2b8d5c2973f23d0bd353b4d1107336f9c988850a", func := "plumbob/plumboblaw17.EntryHistories", spec := "entryHistories", inPlace := ["internal/abi.NoEscape", "internal/bytealg.MakeNoZero"], named := ["plumbob/sha.constants"], apart := false, laid := [("plumbob/sha.constants", laid_plumbob_sha_constants)], narrowed := true }
def EntryHistoriesUptoSaid : Prop := entryHistoriesUptoRow.holds Tryd.pinned (OpenSpec.upto entryHistoriesSpec)

/-- 'plumboblaw19.HeaderChains', WHERE WHAT IT READS IS OF BULK AT MOST 1048576: true; the input reads as it did. -/
def headerChainsUptoRow : OpenClaim := { program := "ytlopnfgacopkbaadoor", sum := "88e4f854e8f4358b2e50dbdd2b8d5c2973f23d0bd353b4d1107336f9c988850a", func := "plumbob/plumboblaw19.HeaderChains", spec := "headerChains", inPlace := ["internal/abi.NoEscape", "internal/bytealg.MakeNoZero"], unfollowed := true, recurses := true, named := ["plumbob/sha.constants"], apart := false, laid := [("plumbob/sha.constants", laid_plumbob_sha_constants)], narrowed := true }
def HeaderChainsUptoSaid : Prop := headerChainsUptoRow.holds Tryd.pinned (OpenSpec.upto headerChainsSpec)

/-- 'plumboblaw17.EntryCodes', WHERE WHAT IT READS IS OF BULK AT MOST 1048576: true; the input reads as it did. -/
def entryCodesUptoRow : OpenClaim := { program := "ytlopnfgacopkbaadoor", sum := "88e4f854e8f4358b2e50dbdd2b8d5c2973f23d0bd353b4d1107336f9c988850a", func := "plumbob/plumboblaw17.EntryCodes", spec := "entryCodes", inPlace := ["internal/abi.NoEscape", "internal/bytealg.MakeNoZero"], named := ["plumbob/sha.constants"], apart := false, laid := [("plumbob/sha.constants", laid_plumbob_sha_constants)], narrowed := true }
def EntryCodesUptoSaid : Prop := entryCodesUptoRow.holds Tryd.pinned (OpenSpec.upto entryCodesSpec)

/-- 'plumboblaw17.EntryParses', WHERE WHAT IT READS IS OF BULK AT MOST 1048576: true; the input reads as it did. -/
def entryParsesUptoRow : OpenClaim := { program := "ytlopnfgacopkbaadoor", sum := "88e4f854e8f4358b2e50dbdd2b8d5c2973f23d0bd353b4d1107336f9c988850a", func := "plumbob/plumboblaw17.EntryParses", spec := "entryParses", inPlace := ["internal/abi.NoEscape", "internal/bytealg.MakeNoZero"], named := ["plumbob/sha.constants"], apart := false, laid := [("plumbob/sha.constants", laid_plumbob_sha_constants)], narrowed := true }
def EntryParsesUptoSaid : Prop := entryParsesUptoRow.holds Tryd.pinned (OpenSpec.upto entryParsesSpec)

/-- 'plumboblaw08.XmssCodes', WHERE WHAT IT READS IS OF BULK AT MOST 1048576: true; the input reads as it did. -/
def xmssCodesUptoRow : OpenClaim := { program := "ytlopnfgacopkbaadoor", sum := "88e4f854e8f4358b2e50dbdd2b8d5c2973f23d0bd353b4d1107336f9c988850a", func := "plumbob/plumboblaw08.XmssCodes", spec := "xmssCodes", inPlace := ["internal/abi.NoEscape", "internal/bytealg.MakeNoZero"], named := ["plumbob/sha.constants"], apart := false, laid := [("plumbob/sha.constants", laid_plumbob_sha_constants)], narrowed := true }
def XmssCodesUptoSaid : Prop := xmssCodesUptoRow.holds Tryd.pinned (OpenSpec.upto xmssCodesSpec)

/-- 'plumboblaw19.HeaderParses', WHERE WHAT IT READS IS OF BULK AT MOST 1048576: true; the input reads as it did. -/
def headerParsesUptoRow : OpenClaim := { program := "ytlopnfgacopkbaadoor", sum := "88e4f854e8f4358b2e50dbdd2b8d5c2973f23d0bd353b4d1107336f9c988850a", func := "plumbob/plumboblaw19.HeaderParses", spec := "headerParses", inPlace := ["internal/abi.NoEscape", "internal/bytealg.MakeNoZero"], unfollowed := true, recurses := true, named := ["plumbob/sha.constants"], apart := false, laid := [("plumbob/sha.constants", laid_plumbob_sha_constants)], narrowed := true }
def HeaderParsesUptoSaid : Prop := headerParsesUptoRow.holds Tryd.pinned (OpenSpec.upto headerParsesSpec)

/-- 'plumboblaw19.HeaderCodes', WHERE WHAT IT READS IS OF BULK AT MOST 1048576: true; the input reads as it did. -/
def headerCodesUptoRow : OpenClaim := { program := "ytlopnfgacopkbaadoor", sum := "88e4f854e8f4358b2e50dbdd2b8d5c2973f23d0bd353b4d1107336f9c988850a", func := "plumbob/plumboblaw19.HeaderCodes", spec := "headerCodes", inPlace := ["internal/abi.NoEscape", "internal/bytealg.MakeNoZero"], unfollowed := true, recurses := true, named := ["plumbob/sha.constants"], apart := false, laid := [("plumbob/sha.constants", laid_plumbob_sha_constants)], narrowed := true }
def HeaderCodesUptoSaid : Prop := headerCodesUptoRow.holds Tryd.pinned (OpenSpec.upto headerCodesSpec)

/-- 'plumboblaw22.AttestParses', WHERE WHAT IT READS IS OF BULK AT MOST 1048576: true; the input reads as it did. -/
def attestParsesUptoRow : OpenClaim := { program := "ytlopnfgacopkbaadoor", sum := "88e4f854e8f4358b2e50dbdd2b8d5c2973f23d0bd353b4d1107336f9c988850a", func := "plumbob/plumboblaw22.AttestParses", spec := "attestParses", inPlace := ["internal/abi.NoEscape", "internal/bytealg.MakeNoZero"], named := ["plumbob/sha.constants"], apart := false, laid := [("plumbob/sha.constants", laid_plumbob_sha_constants)], narrowed := true }
def AttestParsesUptoSaid : Prop := attestParsesUptoRow.holds Tryd.pinned (OpenSpec.upto attestParsesSpec)

end Rows
end Go.Proofs.YtlopnfgacopkbaaDoor
