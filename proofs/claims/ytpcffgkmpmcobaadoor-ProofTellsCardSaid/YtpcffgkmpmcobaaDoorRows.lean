/-
  NARROWER THAN 'FOR EVERY INPUT', by the rows' own cells (each row's printed sentence says how): LabelNormals: laid · LabelRunes: laid · LabelParts: laid · LabelJoins: laid · RosterAdds: laid · BookAreas: laid · BookTorn: laid · SmtRoots: laid · SmtNodes: laid · BandNodes: laid · ProofTells: laid · ProofBands: laid.
  DERIVED. THE GIVEN ROWS OF THIS SEAT. 12 by the template 'for every input the law returns true; each argument reads behind the call as it read before'; 0 by the template 'total and deterministic' (their statements: YtpcffgkmpmcobaaDoorTotals.lean).
  GIVEN WITH THE SEED: the statements are not yours to turn. If you find one false, say at which input.
  Laid BY PROGRAM, IN A SANDBOX (cutbox-rows.mjs): the forced cells as the released guide's own fill.sh prints them over the translation f7c1c1f977992ad6… (all of the seat's roots in one cut). By AI agents, Wed Nov 11 2026. No macro, syntax, notation, axiom, sorry.
-/
import Derived.Test.YtpcffgkmpmcobaaDoorChecked
import GoSem.PinnedTables
import GoSem.Claim
import GoSem.ClaimJoined
import GoSem.ClaimMapViews
import Derived.JoinedTies
import Derived.KernelRfl
namespace Go.Proofs.YtpcffgkmpmcobaaDoor
/- THE CELL 'sum', in the pinned program and in every row, IS THE sha256 OF THE DUMP (.gsa) THAT YtpcffgkmpmcobaaDoorProg.lean LOADS. Nothing in Lean hashes anything: it is a label: what it is worth is what the hold of that sum in a sandbox is worth. -/
noncomputable def Tryd.pinned : Pinned := { name := "ytpcffgkmpmcobaadoor", sum := "f7c1c1f977992ad69cb068e4d1aa9ed8887e604484a2ae02955d11f793eb5b29", checked := Tryd.checked }
namespace Rows
def none {H : Type} : Left H := { results := [], args := [] }

/- WHAT THE LISTED PACKAGE-LEVEL VARIABLES READ AS WHEN THE CALL BEGINS. Each datum BY PROGRAM (the guide's laid-datum.mjs) off the statement by which the dump's own 'gosem.cut.vars' lays the variable. In a bare row this is a premise. The card (YtpcffgkmpmcobaaDoorCards.lean) ties it to the program's text. -/
def laid_unicode_utf8_acceptRanges {H : Type} : DataW H := .agg [.agg [.lit (.int .u8 128), .lit (.int .u8 191)], .agg [.lit (.int .u8 160), .lit (.int .u8 191)], .agg [.lit (.int .u8 128), .lit (.int .u8 159)], .agg [.lit (.int .u8 144), .lit (.int .u8 191)], .agg [.lit (.int .u8 128), .lit (.int .u8 143)], .agg [.lit (.int .u8 0), .lit (.int .u8 0)], .agg [.lit (.int .u8 0), .lit (.int .u8 0)], .agg [.lit (.int .u8 0), .lit (.int .u8 0)], .agg [.lit (.int .u8 0), .lit (.int .u8 0)], .agg [.lit (.int .u8 0), .lit (.int .u8 0)], .agg [.lit (.int .u8 0), .lit (.int .u8 0)], .agg [.lit (.int .u8 0), .lit (.int .u8 0)], .agg [.lit (.int .u8 0), .lit (.int .u8 0)], .agg [.lit (.int .u8 0), .lit (.int .u8 0)], .agg [.lit (.int .u8 0), .lit (.int .u8 0)], .agg [.lit (.int .u8 0), .lit (.int .u8 0)]]
def laid_plumbob_label_alphabets {H : Type} : DataW H := .agg [.agg [.lit (.int .i64 1), .lit (.int .i32 97), .lit (.int .i32 122)], .agg [.lit (.int .i64 2), .lit (.int .i32 945), .lit (.int .i32 969)], .agg [.lit (.int .i64 4), .lit (.int .i32 1072), .lit (.int .i32 1103)]]
/-- One of Go's own tables, pinned by name: the form's constant. -/
def laid_unicode_utf8_first : DataW Unit := Go.Pinned.utf8First
def laid_plumbob_sha_constants {H : Type} : DataW H := .agg [.lit (.int .u32 1116352408), .lit (.int .u32 1899447441), .lit (.int .u32 3049323471), .lit (.int .u32 3921009573), .lit (.int .u32 961987163), .lit (.int .u32 1508970993), .lit (.int .u32 2453635748), .lit (.int .u32 2870763221), .lit (.int .u32 3624381080), .lit (.int .u32 310598401), .lit (.int .u32 607225278), .lit (.int .u32 1426881987), .lit (.int .u32 1925078388), .lit (.int .u32 2162078206), .lit (.int .u32 2614888103), .lit (.int .u32 3248222580), .lit (.int .u32 3835390401), .lit (.int .u32 4022224774), .lit (.int .u32 264347078), .lit (.int .u32 604807628), .lit (.int .u32 770255983), .lit (.int .u32 1249150122), .lit (.int .u32 1555081692), .lit (.int .u32 1996064986), .lit (.int .u32 2554220882), .lit (.int .u32 2821834349), .lit (.int .u32 2952996808), .lit (.int .u32 3210313671), .lit (.int .u32 3336571891), .lit (.int .u32 3584528711), .lit (.int .u32 113926993), .lit (.int .u32 338241895), .lit (.int .u32 666307205), .lit (.int .u32 773529912), .lit (.int .u32 1294757372), .lit (.int .u32 1396182291), .lit (.int .u32 1695183700), .lit (.int .u32 1986661051), .lit (.int .u32 2177026350), .lit (.int .u32 2456956037), .lit (.int .u32 2730485921), .lit (.int .u32 2820302411), .lit (.int .u32 3259730800), .lit (.int .u32 3345764771), .lit (.int .u32 3516065817), .lit (.int .u32 3600352804), .lit (.int .u32 4094571909), .lit (.int .u32 275423344), .lit (.int .u32 430227734), .lit (.int .u32 506948616), .lit (.int .u32 659060556), .lit (.int .u32 883997877), .lit (.int .u32 958139571), .lit (.int .u32 1322822218), .lit (.int .u32 1537002063), .lit (.int .u32 1747873779), .lit (.int .u32 1955562222), .lit (.int .u32 2024104815), .lit (.int .u32 2227730452), .lit (.int .u32 2361852424), .lit (.int .u32 2428436474), .lit (.int .u32 2756734187), .lit (.int .u32 3204031479), .lit (.int .u32 3329325298)]

/-- 'plumboblaw01.LabelNormals': WHATEVER THE INPUT: true; the input reads as it did. -/
def labelNormalsSpec : ChangeSpec := { name := "labelNormals", fn := fun _ => fun
  | [d] => { results := [.lit (.bool true)], args := [d] }
  | _ => none }
def labelNormalsRow : OpenClaim := { program := "ytpcffgkmpmcobaadoor", sum := "f7c1c1f977992ad69cb068e4d1aa9ed8887e604484a2ae02955d11f793eb5b29", func := "plumbob/plumboblaw01.LabelNormals", spec := "labelNormals", inPlace := ["internal/bytealg.CountString", "internal/bytealg.IndexByteString", "internal/bytealg.IndexString", "internal/abi.NoEscape", "internal/bytealg.MakeNoZero"], unfollowed := true, recurses := true, named := ["unicode/utf8.first", "unicode/utf8.acceptRanges", "plumbob/label.alphabets", "internal/bytealg.MaxLen"], apart := false, laid := [("unicode/utf8.acceptRanges", laid_unicode_utf8_acceptRanges), ("plumbob/label.alphabets", laid_plumbob_label_alphabets), ("unicode/utf8.first", laid_unicode_utf8_first)] }
def LabelNormalsSaid : Prop := labelNormalsRow.holds Tryd.pinned (OpenSpec.ofChange labelNormalsSpec)

/-- ITS FALSE NEIGHBOUR: 'it returns false'. Refute it at one input. -/
def labelNormalsWrong : ChangeSpec := { name := "labelNormals", fn := fun _ => fun
  | [d] => { results := [.lit (.bool false)], args := [d] }
  | _ => none }
def LabelNormalsWrongFalsely : Prop := labelNormalsRow.holds Tryd.pinned (OpenSpec.ofChange labelNormalsWrong)

/-- 'plumboblaw01.LabelRunes': WHATEVER THE INPUT: true; the input reads as it did. -/
def labelRunesSpec : ChangeSpec := { name := "labelRunes", fn := fun _ => fun
  | [d1, d2] => { results := [.lit (.bool true)], args := [d1, d2] }
  | _ => none }
def labelRunesRow : OpenClaim := { program := "ytpcffgkmpmcobaadoor", sum := "f7c1c1f977992ad69cb068e4d1aa9ed8887e604484a2ae02955d11f793eb5b29", func := "plumbob/plumboblaw01.LabelRunes", spec := "labelRunes", inPlace := ["internal/bytealg.CountString", "internal/bytealg.IndexByteString", "internal/bytealg.IndexString", "internal/abi.NoEscape", "internal/bytealg.MakeNoZero"], unfollowed := true, recurses := true, named := ["unicode/utf8.first", "unicode/utf8.acceptRanges", "plumbob/label.alphabets", "internal/bytealg.MaxLen"], apart := false, laid := [("unicode/utf8.acceptRanges", laid_unicode_utf8_acceptRanges), ("plumbob/label.alphabets", laid_plumbob_label_alphabets), ("unicode/utf8.first", laid_unicode_utf8_first)] }
def LabelRunesSaid : Prop := labelRunesRow.holds Tryd.pinned (OpenSpec.ofChange labelRunesSpec)

/-- ITS FALSE NEIGHBOUR: 'it returns false'. Refute it at one input. -/
def labelRunesWrong : ChangeSpec := { name := "labelRunes", fn := fun _ => fun
  | [d1, d2] => { results := [.lit (.bool false)], args := [d1, d2] }
  | _ => none }
def LabelRunesWrongFalsely : Prop := labelRunesRow.holds Tryd.pinned (OpenSpec.ofChange labelRunesWrong)

/-- 'plumboblaw01.LabelParts': WHATEVER THE INPUT: true; the input reads as it did. -/
def labelPartsSpec : ChangeSpec := { name := "labelParts", fn := fun _ => fun
  | [d] => { results := [.lit (.bool true)], args := [d] }
  | _ => none }
def labelPartsRow : OpenClaim := { program := "ytpcffgkmpmcobaadoor", sum := "f7c1c1f977992ad69cb068e4d1aa9ed8887e604484a2ae02955d11f793eb5b29", func := "plumbob/plumboblaw01.LabelParts", spec := "labelParts", inPlace := ["internal/bytealg.CountString", "internal/bytealg.IndexByteString", "internal/bytealg.IndexString", "internal/abi.NoEscape", "internal/bytealg.MakeNoZero"], unfollowed := true, recurses := true, named := ["unicode/utf8.first", "unicode/utf8.acceptRanges", "plumbob/label.alphabets", "internal/bytealg.MaxLen"], apart := false, laid := [("unicode/utf8.acceptRanges", laid_unicode_utf8_acceptRanges), ("plumbob/label.alphabets", laid_plumbob_label_alphabets), ("unicode/utf8.first", laid_unicode_utf8_first)] }
def LabelPartsSaid : Prop := labelPartsRow.holds Tryd.pinned (OpenSpec.ofChange labelPartsSpec)

/-- ITS FALSE NEIGHBOUR: 'it returns false'. Refute it at one input. -/
def labelPartsWrong : ChangeSpec := { name := "labelParts", fn := fun _ => fun
  | [d] => { results := [.lit (.bool false)], args := [d] }
  | _ => none }
def LabelPartsWrongFalsely : Prop := labelPartsRow.holds Tryd.pinned (OpenSpec.ofChange labelPartsWrong)

/-- 'plumboblaw01.LabelJoins': WHATEVER THE INPUT: true; the input reads as it did. -/
def labelJoinsSpec : ChangeSpec := { name := "labelJoins", fn := fun _ => fun
  | [d1, d2, d3] => { results := [.lit (.bool true)], args := [d1, d2, d3] }
  | _ => none }
def labelJoinsRow : OpenClaim := { program := "ytpcffgkmpmcobaadoor", sum := "f7c1c1f977992ad69cb068e4d1aa9ed8887e604484a2ae02955d11f793eb5b29", func := "plumbob/plumboblaw01.LabelJoins", spec := "labelJoins", inPlace := ["internal/bytealg.CountString", "internal/bytealg.IndexByteString", "internal/bytealg.IndexString", "internal/abi.NoEscape", "internal/bytealg.MakeNoZero"], unfollowed := true, recurses := true, named := ["unicode/utf8.first", "unicode/utf8.acceptRanges", "plumbob/label.alphabets", "internal/bytealg.MaxLen"], apart := false, laid := [("unicode/utf8.acceptRanges", laid_unicode_utf8_acceptRanges), ("plumbob/label.alphabets", laid_plumbob_label_alphabets), ("unicode/utf8.first", laid_unicode_utf8_first)] }
def LabelJoinsSaid : Prop := labelJoinsRow.holds Tryd.pinned (OpenSpec.ofChange labelJoinsSpec)

/-- ITS FALSE NEIGHBOUR: 'it returns false'. Refute it at one input. -/
def labelJoinsWrong : ChangeSpec := { name := "labelJoins", fn := fun _ => fun
  | [d1, d2, d3] => { results := [.lit (.bool false)], args := [d1, d2, d3] }
  | _ => none }
def LabelJoinsWrongFalsely : Prop := labelJoinsRow.holds Tryd.pinned (OpenSpec.ofChange labelJoinsWrong)

/-- 'plumboblaw20.RosterAdds': WHATEVER THE INPUT: true; the input reads as it did. -/
def rosterAddsSpec : ChangeSpec := { name := "rosterAdds", fn := fun _ => fun
  | [d1, d2] => { results := [.lit (.bool true)], args := [d1, d2] }
  | _ => none }
def rosterAddsRow : OpenClaim := { program := "ytpcffgkmpmcobaadoor", sum := "f7c1c1f977992ad69cb068e4d1aa9ed8887e604484a2ae02955d11f793eb5b29", func := "plumbob/plumboblaw20.RosterAdds", spec := "rosterAdds", inPlace := ["internal/bytealg.CountString", "internal/bytealg.IndexByteString", "internal/bytealg.IndexString", "internal/abi.NoEscape", "internal/bytealg.MakeNoZero"], unfollowed := true, recurses := true, named := ["unicode/utf8.first", "unicode/utf8.acceptRanges", "plumbob/label.alphabets", "internal/bytealg.MaxLen"], apart := false, laid := [("unicode/utf8.acceptRanges", laid_unicode_utf8_acceptRanges), ("plumbob/label.alphabets", laid_plumbob_label_alphabets), ("unicode/utf8.first", laid_unicode_utf8_first)] }
def RosterAddsSaid : Prop := rosterAddsRow.holds Tryd.pinned (OpenSpec.ofChange rosterAddsSpec)

/-- ITS FALSE NEIGHBOUR: 'it returns false'. Refute it at one input. -/
def rosterAddsWrong : ChangeSpec := { name := "rosterAdds", fn := fun _ => fun
  | [d1, d2] => { results := [.lit (.bool false)], args := [d1, d2] }
  | _ => none }
def RosterAddsWrongFalsely : Prop := rosterAddsRow.holds Tryd.pinned (OpenSpec.ofChange rosterAddsWrong)

/-- 'plumboblaw10.BookAreas': WHATEVER THE INPUT: true; the input reads as it did. -/
def bookAreasSpec : ChangeSpec := { name := "bookAreas", fn := fun _ => fun
  | [d1, d2] => { results := [.lit (.bool true)], args := [d1, d2] }
  | _ => none }
def bookAreasRow : OpenClaim := { program := "ytpcffgkmpmcobaadoor", sum := "f7c1c1f977992ad69cb068e4d1aa9ed8887e604484a2ae02955d11f793eb5b29", func := "plumbob/plumboblaw10.BookAreas", spec := "bookAreas", inPlace := ["internal/abi.NoEscape", "internal/bytealg.MakeNoZero"], unfollowed := true, recurses := true, named := ["plumbob/sha.constants"], apart := false, laid := [("plumbob/sha.constants", laid_plumbob_sha_constants)] }
def BookAreasSaid : Prop := bookAreasRow.holds Tryd.pinned (OpenSpec.ofChange bookAreasSpec)

/-- ITS FALSE NEIGHBOUR: 'it returns false'. Refute it at one input. -/
def bookAreasWrong : ChangeSpec := { name := "bookAreas", fn := fun _ => fun
  | [d1, d2] => { results := [.lit (.bool false)], args := [d1, d2] }
  | _ => none }
def BookAreasWrongFalsely : Prop := bookAreasRow.holds Tryd.pinned (OpenSpec.ofChange bookAreasWrong)

/-- 'plumboblaw10.BookTorn': WHATEVER THE INPUT: true; the input reads as it did. -/
def bookTornSpec : ChangeSpec := { name := "bookTorn", fn := fun _ => fun
  | [d1, d2, d3] => { results := [.lit (.bool true)], args := [d1, d2, d3] }
  | _ => none }
def bookTornRow : OpenClaim := { program := "ytpcffgkmpmcobaadoor", sum := "f7c1c1f977992ad69cb068e4d1aa9ed8887e604484a2ae02955d11f793eb5b29", func := "plumbob/plumboblaw10.BookTorn", spec := "bookTorn", inPlace := ["internal/abi.NoEscape", "internal/bytealg.MakeNoZero"], unfollowed := true, recurses := true, named := ["plumbob/sha.constants"], apart := false, laid := [("plumbob/sha.constants", laid_plumbob_sha_constants)] }
def BookTornSaid : Prop := bookTornRow.holds Tryd.pinned (OpenSpec.ofChange bookTornSpec)

/-- ITS FALSE NEIGHBOUR: 'it returns false'. Refute it at one input. -/
def bookTornWrong : ChangeSpec := { name := "bookTorn", fn := fun _ => fun
  | [d1, d2, d3] => { results := [.lit (.bool false)], args := [d1, d2, d3] }
  | _ => none }
def BookTornWrongFalsely : Prop := bookTornRow.holds Tryd.pinned (OpenSpec.ofChange bookTornWrong)

/-- 'plumboblaw13.SmtRoots': WHATEVER THE INPUT: true; the input reads as it did. -/
def smtRootsSpec : ChangeSpec := { name := "smtRoots", fn := fun _ => fun
  | [d1, d2, d3] => { results := [.lit (.bool true)], args := [d1, d2, d3] }
  | _ => none }
def smtRootsRow : OpenClaim := { program := "ytpcffgkmpmcobaadoor", sum := "f7c1c1f977992ad69cb068e4d1aa9ed8887e604484a2ae02955d11f793eb5b29", func := "plumbob/plumboblaw13.SmtRoots", spec := "smtRoots", inPlace := ["internal/abi.NoEscape", "internal/bytealg.MakeNoZero"], unfollowed := true, recurses := true, named := ["plumbob/sha.constants"], apart := false, laid := [("plumbob/sha.constants", laid_plumbob_sha_constants)] }
def SmtRootsSaid : Prop := smtRootsRow.holds Tryd.pinned (OpenSpec.ofChange smtRootsSpec)

/-- ITS FALSE NEIGHBOUR: 'it returns false'. Refute it at one input. -/
def smtRootsWrong : ChangeSpec := { name := "smtRoots", fn := fun _ => fun
  | [d1, d2, d3] => { results := [.lit (.bool false)], args := [d1, d2, d3] }
  | _ => none }
def SmtRootsWrongFalsely : Prop := smtRootsRow.holds Tryd.pinned (OpenSpec.ofChange smtRootsWrong)

/-- 'plumboblaw13.SmtNodes': WHATEVER THE INPUT: true; the input reads as it did. -/
def smtNodesSpec : ChangeSpec := { name := "smtNodes", fn := fun _ => fun
  | [d1, d2, d3] => { results := [.lit (.bool true)], args := [d1, d2, d3] }
  | _ => none }
def smtNodesRow : OpenClaim := { program := "ytpcffgkmpmcobaadoor", sum := "f7c1c1f977992ad69cb068e4d1aa9ed8887e604484a2ae02955d11f793eb5b29", func := "plumbob/plumboblaw13.SmtNodes", spec := "smtNodes", inPlace := ["internal/abi.NoEscape", "internal/bytealg.MakeNoZero"], unfollowed := true, recurses := true, named := ["plumbob/sha.constants"], apart := false, laid := [("plumbob/sha.constants", laid_plumbob_sha_constants)] }
def SmtNodesSaid : Prop := smtNodesRow.holds Tryd.pinned (OpenSpec.ofChange smtNodesSpec)

/-- ITS FALSE NEIGHBOUR: 'it returns false'. Refute it at one input. -/
def smtNodesWrong : ChangeSpec := { name := "smtNodes", fn := fun _ => fun
  | [d1, d2, d3] => { results := [.lit (.bool false)], args := [d1, d2, d3] }
  | _ => none }
def SmtNodesWrongFalsely : Prop := smtNodesRow.holds Tryd.pinned (OpenSpec.ofChange smtNodesWrong)

/-- 'plumboblaw15.BandNodes': WHATEVER THE INPUT: true; the input reads as it did. -/
def bandNodesSpec : ChangeSpec := { name := "bandNodes", fn := fun _ => fun
  | [d1, d2] => { results := [.lit (.bool true)], args := [d1, d2] }
  | _ => none }
def bandNodesRow : OpenClaim := { program := "ytpcffgkmpmcobaadoor", sum := "f7c1c1f977992ad69cb068e4d1aa9ed8887e604484a2ae02955d11f793eb5b29", func := "plumbob/plumboblaw15.BandNodes", spec := "bandNodes", inPlace := ["internal/abi.NoEscape", "internal/bytealg.MakeNoZero"], unfollowed := true, recurses := true, named := ["plumbob/sha.constants"], apart := false, laid := [("plumbob/sha.constants", laid_plumbob_sha_constants)] }
def BandNodesSaid : Prop := bandNodesRow.holds Tryd.pinned (OpenSpec.ofChange bandNodesSpec)

/-- ITS FALSE NEIGHBOUR: 'it returns false'. Refute it at one input. -/
def bandNodesWrong : ChangeSpec := { name := "bandNodes", fn := fun _ => fun
  | [d1, d2] => { results := [.lit (.bool false)], args := [d1, d2] }
  | _ => none }
def BandNodesWrongFalsely : Prop := bandNodesRow.holds Tryd.pinned (OpenSpec.ofChange bandNodesWrong)

/-- 'plumboblaw14.ProofTells': WHATEVER THE INPUT: true; the input reads as it did. -/
def proofTellsSpec : ChangeSpec := { name := "proofTells", fn := fun _ => fun
  | [d1, d2, d3] => { results := [.lit (.bool true)], args := [d1, d2, d3] }
  | _ => none }
def proofTellsRow : OpenClaim := { program := "ytpcffgkmpmcobaadoor", sum := "f7c1c1f977992ad69cb068e4d1aa9ed8887e604484a2ae02955d11f793eb5b29", func := "plumbob/plumboblaw14.ProofTells", spec := "proofTells", inPlace := ["internal/abi.NoEscape", "internal/bytealg.MakeNoZero"], unfollowed := true, recurses := true, named := ["plumbob/sha.constants"], apart := false, laid := [("plumbob/sha.constants", laid_plumbob_sha_constants)] }
def ProofTellsSaid : Prop := proofTellsRow.holds Tryd.pinned (OpenSpec.ofChange proofTellsSpec)

/-- ITS FALSE NEIGHBOUR: 'it returns false'. Refute it at one input. -/
def proofTellsWrong : ChangeSpec := { name := "proofTells", fn := fun _ => fun
  | [d1, d2, d3] => { results := [.lit (.bool false)], args := [d1, d2, d3] }
  | _ => none }
def ProofTellsWrongFalsely : Prop := proofTellsRow.holds Tryd.pinned (OpenSpec.ofChange proofTellsWrong)

/-- 'plumboblaw14.ProofBands': WHATEVER THE INPUT: true; the input reads as it did. -/
def proofBandsSpec : ChangeSpec := { name := "proofBands", fn := fun _ => fun
  | [d1, d2, d3] => { results := [.lit (.bool true)], args := [d1, d2, d3] }
  | _ => none }
def proofBandsRow : OpenClaim := { program := "ytpcffgkmpmcobaadoor", sum := "f7c1c1f977992ad69cb068e4d1aa9ed8887e604484a2ae02955d11f793eb5b29", func := "plumbob/plumboblaw14.ProofBands", spec := "proofBands", inPlace := ["internal/abi.NoEscape", "internal/bytealg.MakeNoZero"], unfollowed := true, recurses := true, named := ["plumbob/sha.constants"], apart := false, laid := [("plumbob/sha.constants", laid_plumbob_sha_constants)] }
def ProofBandsSaid : Prop := proofBandsRow.holds Tryd.pinned (OpenSpec.ofChange proofBandsSpec)

/-- ITS FALSE NEIGHBOUR: 'it returns false'. Refute it at one input. -/
def proofBandsWrong : ChangeSpec := { name := "proofBands", fn := fun _ => fun
  | [d1, d2, d3] => { results := [.lit (.bool false)], args := [d1, d2, d3] }
  | _ => none }
def ProofBandsWrongFalsely : Prop := proofBandsRow.holds Tryd.pinned (OpenSpec.ofChange proofBandsWrong)

/- THE SECOND FORM. 'bulk': how many values and letters a reading holds, each counted each time it is reached (what is shared counts as often as it is met; a slice's spare places count too). A statement '..UptoSaid' is the law's where the arguments, and the package variables that the reading takes, are together of bulk at most 1048576: NARROWER than '..Said'. Prove '..Said' where nothing that the law and all that it calls make is longer than what came in: it says more and counts as full. Else prove '..UptoSaid'. A law counts once. -/
mutual
def uptoBulk {H : Type} : DataW H → Nat
  | .lit (.string bytes) => bytes.length + 1
  | .lit _ => 1
  | .nil => 1
  | .ptr d => uptoBulk d + 1
  | .slice elems spare => uptoBulkAll elems + uptoBulkAll spare + 1
  | .agg parts => uptoBulkAll parts + 1
  | .iface _ d => uptoBulk d + 1
  | .map entries => uptoBulkEntries entries + 1
  | .held _ => 1
def uptoBulkAll {H : Type} : List (DataW H) → Nat
  | [] => 0
  | d :: r => uptoBulk d + uptoBulkAll r
def uptoBulkEntries {H : Type} : List (Lit × DataW H) → Nat
  | [] => 0
  | x :: r => uptoBulkEntry x + uptoBulkEntries r
def uptoBulkEntry {H : Type} : Lit × DataW H → Nat
  | (.string bytes, d) => bytes.length + uptoBulk d + 1
  | (_, d) => uptoBulk d + 1
 end
def uptoSmall : (H : Type) → List (DataW H) → Bool := fun _ ds => decide (uptoBulkAll ds ≤ 1048576)
def OpenSpec.upto (s : _root_.Go.ChangeSpec) : _root_.Go.OpenSpec := { _root_.Go.OpenSpec.ofChange s with cond := some uptoSmall }

/-- 'plumboblaw01.LabelNormals', WHERE WHAT IT READS IS OF BULK AT MOST 1048576: true; the input reads as it did. -/
def labelNormalsUptoRow : OpenClaim := { program := "ytpcffgkmpmcobaadoor", sum := "f7c1c1f977992ad69cb068e4d1aa9ed8887e604484a2ae02955d11f793eb5b29", func := "plumbob/plumboblaw01.LabelNormals", spec := "labelNormals", inPlace := ["internal/bytealg.CountString", "internal/bytealg.IndexByteString", "internal/bytealg.IndexString", "internal/abi.NoEscape", "internal/bytealg.MakeNoZero"], unfollowed := true, recurses := true, named := ["unicode/utf8.first", "unicode/utf8.acceptRanges", "plumbob/label.alphabets", "internal/bytealg.MaxLen"], apart := false, laid := [("unicode/utf8.acceptRanges", laid_unicode_utf8_acceptRanges), ("plumbob/label.alphabets", laid_plumbob_label_alphabets), ("unicode/utf8.first", laid_unicode_utf8_first)], narrowed := true }
def LabelNormalsUptoSaid : Prop := labelNormalsUptoRow.holds Tryd.pinned (OpenSpec.upto labelNormalsSpec)

/-- 'plumboblaw01.LabelRunes', WHERE WHAT IT READS IS OF BULK AT MOST 1048576: true; the input reads as it did. -/
def labelRunesUptoRow : OpenClaim := { program := "ytpcffgkmpmcobaadoor", sum := "f7c1c1f977992ad69cb068e4d1aa9ed8887e604484a2ae02955d11f793eb5b29", func := "plumbob/plumboblaw01.LabelRunes", spec := "labelRunes", inPlace := ["internal/bytealg.CountString", "internal/bytealg.IndexByteString", "internal/bytealg.IndexString", "internal/abi.NoEscape", "internal/bytealg.MakeNoZero"], unfollowed := true, recurses := true, named := ["unicode/utf8.first", "unicode/utf8.acceptRanges", "plumbob/label.alphabets", "internal/bytealg.MaxLen"], apart := false, laid := [("unicode/utf8.acceptRanges", laid_unicode_utf8_acceptRanges), ("plumbob/label.alphabets", laid_plumbob_label_alphabets), ("unicode/utf8.first", laid_unicode_utf8_first)], narrowed := true }
def LabelRunesUptoSaid : Prop := labelRunesUptoRow.holds Tryd.pinned (OpenSpec.upto labelRunesSpec)

/-- 'plumboblaw01.LabelParts', WHERE WHAT IT READS IS OF BULK AT MOST 1048576: true; the input reads as it did. -/
def labelPartsUptoRow : OpenClaim := { program := "ytpcffgkmpmcobaadoor", sum := "f7c1c1f977992ad69cb068e4d1aa9ed8887e604484a2ae02955d11f793eb5b29", func := "plumbob/plumboblaw01.LabelParts", spec := "labelParts", inPlace := ["internal/bytealg.CountString", "internal/bytealg.IndexByteString", "internal/bytealg.IndexString", "internal/abi.NoEscape", "internal/bytealg.MakeNoZero"], unfollowed := true, recurses := true, named := ["unicode/utf8.first", "unicode/utf8.acceptRanges", "plumbob/label.alphabets", "internal/bytealg.MaxLen"], apart := false, laid := [("unicode/utf8.acceptRanges", laid_unicode_utf8_acceptRanges), ("plumbob/label.alphabets", laid_plumbob_label_alphabets), ("unicode/utf8.first", laid_unicode_utf8_first)], narrowed := true }
def LabelPartsUptoSaid : Prop := labelPartsUptoRow.holds Tryd.pinned (OpenSpec.upto labelPartsSpec)

/-- 'plumboblaw01.LabelJoins', WHERE WHAT IT READS IS OF BULK AT MOST 1048576: true; the input reads as it did. -/
def labelJoinsUptoRow : OpenClaim := { program := "ytpcffgkmpmcobaadoor", sum := "f7c1c1f977992ad69cb068e4d1aa9ed8887e604484a2ae02955d11f793eb5b29", func := "plumbob/plumboblaw01.LabelJoins", spec := "labelJoins", inPlace := ["internal/bytealg.CountString", "internal/bytealg.IndexByteString", "internal/bytealg.IndexString", "internal/abi.NoEscape", "internal/bytealg.MakeNoZero"], unfollowed := true, recurses := true, named := ["unicode/utf8.first", "unicode/utf8.acceptRanges", "plumbob/label.alphabets", "internal/bytealg.MaxLen"], apart := false, laid := [("unicode/utf8.acceptRanges", laid_unicode_utf8_acceptRanges), ("plumbob/label.alphabets", laid_plumbob_label_alphabets), ("unicode/utf8.first", laid_unicode_utf8_first)], narrowed := true }
def LabelJoinsUptoSaid : Prop := labelJoinsUptoRow.holds Tryd.pinned (OpenSpec.upto labelJoinsSpec)

/-- 'plumboblaw20.RosterAdds', WHERE WHAT IT READS IS OF BULK AT MOST 1048576: true; the input reads as it did. -/
def rosterAddsUptoRow : OpenClaim := { program := "ytpcffgkmpmcobaadoor", sum := "f7c1c1f977992ad69cb068e4d1aa9ed8887e604484a2ae02955d11f793eb5b29", func := "plumbob/plumboblaw20.RosterAdds", spec := "rosterAdds", inPlace := ["internal/bytealg.CountString", "internal/bytealg.IndexByteString", "internal/bytealg.IndexString", "internal/abi.NoEscape", "internal/bytealg.MakeNoZero"], unfollowed := true, recurses := true, named := ["unicode/utf8.first", "unicode/utf8.acceptRanges", "plumbob/label.alphabets", "internal/bytealg.MaxLen"], apart := false, laid := [("unicode/utf8.acceptRanges", laid_unicode_utf8_acceptRanges), ("plumbob/label.alphabets", laid_plumbob_label_alphabets), ("unicode/utf8.first", laid_unicode_utf8_first)], narrowed := true }
def RosterAddsUptoSaid : Prop := rosterAddsUptoRow.holds Tryd.pinned (OpenSpec.upto rosterAddsSpec)

/-- 'plumboblaw10.BookAreas', WHERE WHAT IT READS IS OF BULK AT MOST 1048576: true; the input reads as it did. -/
def bookAreasUptoRow : OpenClaim := { program := "ytpcffgkmpmcobaadoor", sum := "f7c1c1f977992ad69cb068e4d1aa9ed8887e604484a2ae02955d11f793eb5b29", func := "plumbob/plumboblaw10.BookAreas", spec := "bookAreas", inPlace := ["internal/abi.NoEscape", "internal/bytealg.MakeNoZero"], unfollowed := true, recurses := true, named := ["plumbob/sha.constants"], apart := false, laid := [("plumbob/sha.constants", laid_plumbob_sha_constants)], narrowed := true }
def BookAreasUptoSaid : Prop := bookAreasUptoRow.holds Tryd.pinned (OpenSpec.upto bookAreasSpec)

/-- 'plumboblaw10.BookTorn', WHERE WHAT IT READS IS OF BULK AT MOST 1048576: true; the input reads as it did. -/
def bookTornUptoRow : OpenClaim := { program := "ytpcffgkmpmcobaadoor", sum := "f7c1c1f977992ad69cb068e4d1aa9ed8887e604484a2ae02955d11f793eb5b29", func := "plumbob/plumboblaw10.BookTorn", spec := "bookTorn", inPlace := ["internal/abi.NoEscape", "internal/bytealg.MakeNoZero"], unfollowed := true, recurses := true, named := ["plumbob/sha.constants"], apart := false, laid := [("plumbob/sha.constants", laid_plumbob_sha_constants)], narrowed := true }
def BookTornUptoSaid : Prop := bookTornUptoRow.holds Tryd.pinned (OpenSpec.upto bookTornSpec)

/-- 'plumboblaw13.SmtRoots', WHERE WHAT IT READS IS OF BULK AT MOST 1048576: true; the input reads as it did. -/
def smtRootsUptoRow : OpenClaim := { program := "ytpcffgkmpmcobaadoor", sum := "f7c1c1f977992ad69cb068e4d1aa9ed8887e604484a2ae02955d11f793eb5b29", func := "plumbob/plumboblaw13.SmtRoots", spec := "smtRoots", inPlace := ["internal/abi.NoEscape", "internal/bytealg.MakeNoZero"], unfollowed := true, recurses := true, named := ["plumbob/sha.constants"], apart := false, laid := [("plumbob/sha.constants", laid_plumbob_sha_constants)], narrowed := true }
def SmtRootsUptoSaid : Prop := smtRootsUptoRow.holds Tryd.pinned (OpenSpec.upto smtRootsSpec)

/-- 'plumboblaw13.SmtNodes', WHERE WHAT IT READS IS OF BULK AT MOST 1048576: true; the input reads as it did. -/
def smtNodesUptoRow : OpenClaim := { program := "ytpcffgkmpmcobaadoor", sum := "f7c1c1f977992ad69cb068e4d1aa9ed8887e604484a2ae02955d11f793eb5b29", func := "plumbob/plumboblaw13.SmtNodes", spec := "smtNodes", inPlace := ["internal/abi.NoEscape", "internal/bytealg.MakeNoZero"], unfollowed := true, recurses := true, named := ["plumbob/sha.constants"], apart := false, laid := [("plumbob/sha.constants", laid_plumbob_sha_constants)], narrowed := true }
def SmtNodesUptoSaid : Prop := smtNodesUptoRow.holds Tryd.pinned (OpenSpec.upto smtNodesSpec)

/-- 'plumboblaw15.BandNodes', WHERE WHAT IT READS IS OF BULK AT MOST 1048576: true; the input reads as it did. -/
def bandNodesUptoRow : OpenClaim := { program := "ytpcffgkmpmcobaadoor", sum := "f7c1c1f977992ad69cb068e4d1aa9ed8887e604484a2ae02955d11f793eb5b29", func := "plumbob/plumboblaw15.BandNodes", spec := "bandNodes", inPlace := ["internal/abi.NoEscape", "internal/bytealg.MakeNoZero"], unfollowed := true, recurses := true, named := ["plumbob/sha.constants"], apart := false, laid := [("plumbob/sha.constants", laid_plumbob_sha_constants)], narrowed := true }
def BandNodesUptoSaid : Prop := bandNodesUptoRow.holds Tryd.pinned (OpenSpec.upto bandNodesSpec)

/-- 'plumboblaw14.ProofTells', WHERE WHAT IT READS IS OF BULK AT MOST 1048576: true; the input reads as it did. -/
def proofTellsUptoRow : OpenClaim := { program := "ytpcffgkmpmcobaadoor", sum := "f7c1c1f977992ad69cb068e4d1aa9ed8887e604484a2ae02955d11f793eb5b29", func := "plumbob/plumboblaw14.ProofTells", spec := "proofTells", inPlace := ["internal/abi.NoEscape", "internal/bytealg.MakeNoZero"], unfollowed := true, recurses := true, named := ["plumbob/sha.constants"], apart := false, laid := [("plumbob/sha.constants", laid_plumbob_sha_constants)], narrowed := true }
def ProofTellsUptoSaid : Prop := proofTellsUptoRow.holds Tryd.pinned (OpenSpec.upto proofTellsSpec)

/-- 'plumboblaw14.ProofBands', WHERE WHAT IT READS IS OF BULK AT MOST 1048576: true; the input reads as it did. -/
def proofBandsUptoRow : OpenClaim := { program := "ytpcffgkmpmcobaadoor", sum := "f7c1c1f977992ad69cb068e4d1aa9ed8887e604484a2ae02955d11f793eb5b29", func := "plumbob/plumboblaw14.ProofBands", spec := "proofBands", inPlace := ["internal/abi.NoEscape", "internal/bytealg.MakeNoZero"], unfollowed := true, recurses := true, named := ["plumbob/sha.constants"], apart := false, laid := [("plumbob/sha.constants", laid_plumbob_sha_constants)], narrowed := true }
def ProofBandsUptoSaid : Prop := proofBandsUptoRow.holds Tryd.pinned (OpenSpec.upto proofBandsSpec)

end Rows
end Go.Proofs.YtpcffgkmpmcobaaDoor
