/-
  NARROWER THAN 'FOR EVERY INPUT', by the rows' own cells (each row's printed sentence says how): ReplyParses: laid · XmlParses: laid · XmlTexts: laid · XmlBack: loops, laid · XmlLent: loops, laid · XmlDepths: laid · XmlWhite: laid · XmlPrints: loops, laid · ReplyNodes: loops, laid.
  DERIVED. THE GIVEN ROWS OF THIS SEAT. 9 by the template 'for every input the law returns true; each argument reads behind the call as it read before'; 0 by the template 'total and deterministic' (their statements: YtkhjpobhdpcglaaDoorTotals.lean).
  GIVEN WITH THE SEED: the statements are not yours to turn. If you find one false, say at which input.
  Laid BY PROGRAM, IN A SANDBOX (cutbox-rows.mjs): the forced cells as the released guide's own fill.sh prints them over the translation 9dd61def93a999c4… (all of the seat's roots in one cut). By AI agents, Wed Nov 11 2026. No macro, syntax, notation, axiom, sorry.
-/
import Derived.Test.YtkhjpobhdpcglaaDoorChecked
import GoSem.PinnedTables
import GoSem.Claim
import GoSem.ClaimJoined
import GoSem.ClaimMapViews
import Derived.JoinedTies
import Derived.KernelRfl
namespace Go.Proofs.YtkhjpobhdpcglaaDoor
/- THE CELL 'sum', in the pinned program and in every row, IS THE sha256 OF THE DUMP (.gsa) THAT YtkhjpobhdpcglaaDoorProg.lean LOADS. Nothing in Lean hashes anything: it is a label: what it is worth is what the hold of that sum in a sandbox is worth. -/
noncomputable def Tryd.pinned : Pinned := { name := "ytkhjpobhdpcglaadoor", sum := "9dd61def93a999c427f715917dc9ecc9dbe8b010113586db75715a9a600b8c33", checked := Tryd.checked }
namespace Rows
def none {H : Type} : Left H := { results := [], args := [] }

/- WHAT THE LISTED PACKAGE-LEVEL VARIABLES READ AS WHEN THE CALL BEGINS. Each datum BY PROGRAM (the guide's laid-datum.mjs) off the statement by which the dump's own 'gosem.cut.vars' lays the variable. In a bare row this is a premise. The card (YtkhjpobhdpcglaaDoorCards.lean) ties it to the program's text. -/
def laid_math_bits_deBruijn32tab {H : Type} : DataW H := .agg [.lit (.int .u8 0), .lit (.int .u8 1), .lit (.int .u8 28), .lit (.int .u8 2), .lit (.int .u8 29), .lit (.int .u8 14), .lit (.int .u8 24), .lit (.int .u8 3), .lit (.int .u8 30), .lit (.int .u8 22), .lit (.int .u8 20), .lit (.int .u8 15), .lit (.int .u8 25), .lit (.int .u8 17), .lit (.int .u8 4), .lit (.int .u8 8), .lit (.int .u8 31), .lit (.int .u8 27), .lit (.int .u8 13), .lit (.int .u8 23), .lit (.int .u8 21), .lit (.int .u8 19), .lit (.int .u8 16), .lit (.int .u8 7), .lit (.int .u8 26), .lit (.int .u8 12), .lit (.int .u8 18), .lit (.int .u8 6), .lit (.int .u8 11), .lit (.int .u8 5), .lit (.int .u8 10), .lit (.int .u8 9)]
def laid_math_bits_deBruijn64tab {H : Type} : DataW H := .agg [.lit (.int .u8 0), .lit (.int .u8 1), .lit (.int .u8 56), .lit (.int .u8 2), .lit (.int .u8 57), .lit (.int .u8 49), .lit (.int .u8 28), .lit (.int .u8 3), .lit (.int .u8 61), .lit (.int .u8 58), .lit (.int .u8 42), .lit (.int .u8 50), .lit (.int .u8 38), .lit (.int .u8 29), .lit (.int .u8 17), .lit (.int .u8 4), .lit (.int .u8 62), .lit (.int .u8 47), .lit (.int .u8 59), .lit (.int .u8 36), .lit (.int .u8 45), .lit (.int .u8 43), .lit (.int .u8 51), .lit (.int .u8 22), .lit (.int .u8 53), .lit (.int .u8 39), .lit (.int .u8 33), .lit (.int .u8 30), .lit (.int .u8 24), .lit (.int .u8 18), .lit (.int .u8 12), .lit (.int .u8 5), .lit (.int .u8 63), .lit (.int .u8 55), .lit (.int .u8 48), .lit (.int .u8 27), .lit (.int .u8 60), .lit (.int .u8 41), .lit (.int .u8 37), .lit (.int .u8 16), .lit (.int .u8 46), .lit (.int .u8 35), .lit (.int .u8 44), .lit (.int .u8 21), .lit (.int .u8 52), .lit (.int .u8 32), .lit (.int .u8 23), .lit (.int .u8 11), .lit (.int .u8 54), .lit (.int .u8 26), .lit (.int .u8 40), .lit (.int .u8 15), .lit (.int .u8 34), .lit (.int .u8 20), .lit (.int .u8 31), .lit (.int .u8 10), .lit (.int .u8 25), .lit (.int .u8 14), .lit (.int .u8 19), .lit (.int .u8 9), .lit (.int .u8 13), .lit (.int .u8 8), .lit (.int .u8 7), .lit (.int .u8 6)]
def laid_internal_strconv_uint64pow10 {H : Type} : DataW H := .agg [.lit (.int .u64 1), .lit (.int .u64 10), .lit (.int .u64 100), .lit (.int .u64 1000), .lit (.int .u64 10000), .lit (.int .u64 100000), .lit (.int .u64 1000000), .lit (.int .u64 10000000), .lit (.int .u64 100000000), .lit (.int .u64 1000000000), .lit (.int .u64 10000000000), .lit (.int .u64 100000000000), .lit (.int .u64 1000000000000), .lit (.int .u64 10000000000000), .lit (.int .u64 100000000000000), .lit (.int .u64 1000000000000000), .lit (.int .u64 10000000000000000), .lit (.int .u64 100000000000000000), .lit (.int .u64 1000000000000000000), .lit (.int .u64 10000000000000000000)]
def laid_unicode_utf8_acceptRanges {H : Type} : DataW H := .agg [.agg [.lit (.int .u8 128), .lit (.int .u8 191)], .agg [.lit (.int .u8 160), .lit (.int .u8 191)], .agg [.lit (.int .u8 128), .lit (.int .u8 159)], .agg [.lit (.int .u8 144), .lit (.int .u8 191)], .agg [.lit (.int .u8 128), .lit (.int .u8 143)], .agg [.lit (.int .u8 0), .lit (.int .u8 0)], .agg [.lit (.int .u8 0), .lit (.int .u8 0)], .agg [.lit (.int .u8 0), .lit (.int .u8 0)], .agg [.lit (.int .u8 0), .lit (.int .u8 0)], .agg [.lit (.int .u8 0), .lit (.int .u8 0)], .agg [.lit (.int .u8 0), .lit (.int .u8 0)], .agg [.lit (.int .u8 0), .lit (.int .u8 0)], .agg [.lit (.int .u8 0), .lit (.int .u8 0)], .agg [.lit (.int .u8 0), .lit (.int .u8 0)], .agg [.lit (.int .u8 0), .lit (.int .u8 0)], .agg [.lit (.int .u8 0), .lit (.int .u8 0)]]
/-- One of Go's own tables, pinned by name: the form's constant. -/
def laid_unicode_utf8_first : DataW Unit := Go.Pinned.utf8First

/-- 'stowagelaw17.ReplyParses': WHATEVER THE INPUT: true; the input reads as it did. -/
def replyParsesSpec : ChangeSpec := { name := "replyParses", fn := fun _ => fun
  | [d1, d2] => { results := [.lit (.bool true)], args := [d1, d2] }
  | _ => none }
def replyParsesRow : OpenClaim := { program := "ytkhjpobhdpcglaadoor", sum := "9dd61def93a999c427f715917dc9ecc9dbe8b010113586db75715a9a600b8c33", func := "stowage/stowagelaw17.ReplyParses", spec := "replyParses", inPlace := ["internal/bytealg.IndexByteString", "internal/bytealg.IndexString", "internal/abi.NoEscape"], unfollowed := true, recurses := true, named := ["internal/bytealg.MaxLen", "internal/strconv.uint64pow10", "math/bits.deBruijn32tab", "math/bits.deBruijn64tab"], apart := false, laid := [("math/bits.deBruijn32tab", laid_math_bits_deBruijn32tab), ("math/bits.deBruijn64tab", laid_math_bits_deBruijn64tab), ("internal/strconv.uint64pow10", laid_internal_strconv_uint64pow10)] }
def ReplyParsesSaid : Prop := replyParsesRow.holds Tryd.pinned (OpenSpec.ofChange replyParsesSpec)

/-- ITS FALSE NEIGHBOUR: 'it returns false'. Refute it at one input. -/
def replyParsesWrong : ChangeSpec := { name := "replyParses", fn := fun _ => fun
  | [d1, d2] => { results := [.lit (.bool false)], args := [d1, d2] }
  | _ => none }
def ReplyParsesWrongFalsely : Prop := replyParsesRow.holds Tryd.pinned (OpenSpec.ofChange replyParsesWrong)

/-- 'stowagelaw13.XmlParses': WHATEVER THE INPUT: true; the input reads as it did. -/
def xmlParsesSpec : ChangeSpec := { name := "xmlParses", fn := fun _ => fun
  | [d] => { results := [.lit (.bool true)], args := [d] }
  | _ => none }
def xmlParsesRow : OpenClaim := { program := "ytkhjpobhdpcglaadoor", sum := "9dd61def93a999c427f715917dc9ecc9dbe8b010113586db75715a9a600b8c33", func := "stowage/stowagelaw13.XmlParses", spec := "xmlParses", inPlace := ["internal/bytealg.IndexByteString", "internal/bytealg.IndexString", "internal/bytealg.CountString", "internal/abi.NoEscape", "internal/bytealg.MakeNoZero"], recurses := true, named := ["internal/bytealg.MaxLen", "unicode/utf8.first", "unicode/utf8.acceptRanges"], apart := false, laid := [("unicode/utf8.acceptRanges", laid_unicode_utf8_acceptRanges), ("unicode/utf8.first", laid_unicode_utf8_first)] }
def XmlParsesSaid : Prop := xmlParsesRow.holds Tryd.pinned (OpenSpec.ofChange xmlParsesSpec)

/-- ITS FALSE NEIGHBOUR: 'it returns false'. Refute it at one input. -/
def xmlParsesWrong : ChangeSpec := { name := "xmlParses", fn := fun _ => fun
  | [d] => { results := [.lit (.bool false)], args := [d] }
  | _ => none }
def XmlParsesWrongFalsely : Prop := xmlParsesRow.holds Tryd.pinned (OpenSpec.ofChange xmlParsesWrong)

/-- 'stowagelaw13.XmlTexts': WHATEVER THE INPUT: true; the input reads as it did. -/
def xmlTextsSpec : ChangeSpec := { name := "xmlTexts", fn := fun _ => fun
  | [d] => { results := [.lit (.bool true)], args := [d] }
  | _ => none }
def xmlTextsRow : OpenClaim := { program := "ytkhjpobhdpcglaadoor", sum := "9dd61def93a999c427f715917dc9ecc9dbe8b010113586db75715a9a600b8c33", func := "stowage/stowagelaw13.XmlTexts", spec := "xmlTexts", inPlace := ["internal/bytealg.CountString", "internal/bytealg.IndexByteString", "internal/bytealg.IndexString", "internal/abi.NoEscape", "internal/bytealg.MakeNoZero"], recurses := true, named := ["internal/bytealg.MaxLen", "unicode/utf8.first", "unicode/utf8.acceptRanges"], apart := false, laid := [("unicode/utf8.acceptRanges", laid_unicode_utf8_acceptRanges), ("unicode/utf8.first", laid_unicode_utf8_first)] }
def XmlTextsSaid : Prop := xmlTextsRow.holds Tryd.pinned (OpenSpec.ofChange xmlTextsSpec)

/-- ITS FALSE NEIGHBOUR: 'it returns false'. Refute it at one input. -/
def xmlTextsWrong : ChangeSpec := { name := "xmlTexts", fn := fun _ => fun
  | [d] => { results := [.lit (.bool false)], args := [d] }
  | _ => none }
def XmlTextsWrongFalsely : Prop := xmlTextsRow.holds Tryd.pinned (OpenSpec.ofChange xmlTextsWrong)

/-- 'stowagelaw13.XmlBack': WHATEVER THE INPUT: true; the input reads as it did. -/
def xmlBackSpec : ChangeSpec := { name := "xmlBack", fn := fun _ => fun
  | [d1, d2, d3] => { results := [.lit (.bool true)], args := [d1, d2, d3] }
  | _ => none }
def xmlBackRow : OpenClaim := { program := "ytkhjpobhdpcglaadoor", sum := "9dd61def93a999c427f715917dc9ecc9dbe8b010113586db75715a9a600b8c33", func := "stowage/stowagelaw13.XmlBack", spec := "xmlBack", inPlace := ["internal/bytealg.IndexByteString", "internal/bytealg.IndexString", "internal/bytealg.CountString", "internal/abi.NoEscape", "internal/bytealg.MakeNoZero"], recurses := true, named := ["internal/bytealg.MaxLen", "unicode/utf8.first", "unicode/utf8.acceptRanges"], loops := true, apart := false, laid := [("unicode/utf8.acceptRanges", laid_unicode_utf8_acceptRanges), ("unicode/utf8.first", laid_unicode_utf8_first)] }
def XmlBackSaid : Prop := xmlBackRow.holds Tryd.pinned (OpenSpec.ofChange xmlBackSpec)

/-- ITS FALSE NEIGHBOUR: 'it returns false'. Refute it at one input. -/
def xmlBackWrong : ChangeSpec := { name := "xmlBack", fn := fun _ => fun
  | [d1, d2, d3] => { results := [.lit (.bool false)], args := [d1, d2, d3] }
  | _ => none }
def XmlBackWrongFalsely : Prop := xmlBackRow.holds Tryd.pinned (OpenSpec.ofChange xmlBackWrong)

/-- 'stowagelaw13.XmlLent': WHATEVER THE INPUT: true; the input reads as it did. -/
def xmlLentSpec : ChangeSpec := { name := "xmlLent", fn := fun _ => fun
  | [d1, d2] => { results := [.lit (.bool true)], args := [d1, d2] }
  | _ => none }
def xmlLentRow : OpenClaim := { program := "ytkhjpobhdpcglaadoor", sum := "9dd61def93a999c427f715917dc9ecc9dbe8b010113586db75715a9a600b8c33", func := "stowage/stowagelaw13.XmlLent", spec := "xmlLent", inPlace := ["internal/bytealg.IndexByteString", "internal/bytealg.IndexString", "internal/bytealg.CountString", "internal/abi.NoEscape", "internal/bytealg.MakeNoZero"], recurses := true, named := ["internal/bytealg.MaxLen", "unicode/utf8.first", "unicode/utf8.acceptRanges"], loops := true, apart := false, laid := [("unicode/utf8.acceptRanges", laid_unicode_utf8_acceptRanges), ("unicode/utf8.first", laid_unicode_utf8_first)] }
def XmlLentSaid : Prop := xmlLentRow.holds Tryd.pinned (OpenSpec.ofChange xmlLentSpec)

/-- ITS FALSE NEIGHBOUR: 'it returns false'. Refute it at one input. -/
def xmlLentWrong : ChangeSpec := { name := "xmlLent", fn := fun _ => fun
  | [d1, d2] => { results := [.lit (.bool false)], args := [d1, d2] }
  | _ => none }
def XmlLentWrongFalsely : Prop := xmlLentRow.holds Tryd.pinned (OpenSpec.ofChange xmlLentWrong)

/-- 'stowagelaw13.XmlDepths': WHATEVER THE INPUT: true; the input reads as it did. -/
def xmlDepthsSpec : ChangeSpec := { name := "xmlDepths", fn := fun _ => fun
  | [d1, d2] => { results := [.lit (.bool true)], args := [d1, d2] }
  | _ => none }
def xmlDepthsRow : OpenClaim := { program := "ytkhjpobhdpcglaadoor", sum := "9dd61def93a999c427f715917dc9ecc9dbe8b010113586db75715a9a600b8c33", func := "stowage/stowagelaw13.XmlDepths", spec := "xmlDepths", inPlace := ["internal/bytealg.IndexByteString", "internal/bytealg.IndexString", "internal/bytealg.CountString", "internal/abi.NoEscape", "internal/bytealg.MakeNoZero"], recurses := true, named := ["internal/bytealg.MaxLen", "unicode/utf8.first", "unicode/utf8.acceptRanges"], apart := false, laid := [("unicode/utf8.acceptRanges", laid_unicode_utf8_acceptRanges), ("unicode/utf8.first", laid_unicode_utf8_first)] }
def XmlDepthsSaid : Prop := xmlDepthsRow.holds Tryd.pinned (OpenSpec.ofChange xmlDepthsSpec)

/-- ITS FALSE NEIGHBOUR: 'it returns false'. Refute it at one input. -/
def xmlDepthsWrong : ChangeSpec := { name := "xmlDepths", fn := fun _ => fun
  | [d1, d2] => { results := [.lit (.bool false)], args := [d1, d2] }
  | _ => none }
def XmlDepthsWrongFalsely : Prop := xmlDepthsRow.holds Tryd.pinned (OpenSpec.ofChange xmlDepthsWrong)

/-- 'stowagelaw13.XmlWhite': WHATEVER THE INPUT: true; the input reads as it did. -/
def xmlWhiteSpec : ChangeSpec := { name := "xmlWhite", fn := fun _ => fun
  | [d1, d2, d3] => { results := [.lit (.bool true)], args := [d1, d2, d3] }
  | _ => none }
def xmlWhiteRow : OpenClaim := { program := "ytkhjpobhdpcglaadoor", sum := "9dd61def93a999c427f715917dc9ecc9dbe8b010113586db75715a9a600b8c33", func := "stowage/stowagelaw13.XmlWhite", spec := "xmlWhite", inPlace := ["internal/bytealg.IndexByteString", "internal/bytealg.IndexString", "internal/bytealg.CountString", "internal/abi.NoEscape", "internal/bytealg.MakeNoZero"], recurses := true, named := ["internal/bytealg.MaxLen", "unicode/utf8.first", "unicode/utf8.acceptRanges"], apart := false, laid := [("unicode/utf8.acceptRanges", laid_unicode_utf8_acceptRanges), ("unicode/utf8.first", laid_unicode_utf8_first)] }
def XmlWhiteSaid : Prop := xmlWhiteRow.holds Tryd.pinned (OpenSpec.ofChange xmlWhiteSpec)

/-- ITS FALSE NEIGHBOUR: 'it returns false'. Refute it at one input. -/
def xmlWhiteWrong : ChangeSpec := { name := "xmlWhite", fn := fun _ => fun
  | [d1, d2, d3] => { results := [.lit (.bool false)], args := [d1, d2, d3] }
  | _ => none }
def XmlWhiteWrongFalsely : Prop := xmlWhiteRow.holds Tryd.pinned (OpenSpec.ofChange xmlWhiteWrong)

/-- 'stowagelaw13.XmlPrints': WHATEVER THE INPUT: true; the input reads as it did. -/
def xmlPrintsSpec : ChangeSpec := { name := "xmlPrints", fn := fun _ => fun
  | [d1, d2, d3] => { results := [.lit (.bool true)], args := [d1, d2, d3] }
  | _ => none }
def xmlPrintsRow : OpenClaim := { program := "ytkhjpobhdpcglaadoor", sum := "9dd61def93a999c427f715917dc9ecc9dbe8b010113586db75715a9a600b8c33", func := "stowage/stowagelaw13.XmlPrints", spec := "xmlPrints", inPlace := ["internal/bytealg.IndexByteString", "internal/bytealg.IndexString", "internal/bytealg.CountString", "internal/abi.NoEscape", "internal/bytealg.MakeNoZero"], recurses := true, named := ["internal/bytealg.MaxLen", "unicode/utf8.first", "unicode/utf8.acceptRanges"], loops := true, apart := false, laid := [("unicode/utf8.acceptRanges", laid_unicode_utf8_acceptRanges), ("unicode/utf8.first", laid_unicode_utf8_first)] }
def XmlPrintsSaid : Prop := xmlPrintsRow.holds Tryd.pinned (OpenSpec.ofChange xmlPrintsSpec)

/-- ITS FALSE NEIGHBOUR: 'it returns false'. Refute it at one input. -/
def xmlPrintsWrong : ChangeSpec := { name := "xmlPrints", fn := fun _ => fun
  | [d1, d2, d3] => { results := [.lit (.bool false)], args := [d1, d2, d3] }
  | _ => none }
def XmlPrintsWrongFalsely : Prop := xmlPrintsRow.holds Tryd.pinned (OpenSpec.ofChange xmlPrintsWrong)

/-- 'stowagelaw17.ReplyNodes': WHATEVER THE INPUT: true; the input reads as it did. -/
def replyNodesSpec : ChangeSpec := { name := "replyNodes", fn := fun _ => fun
  | [d1, d2] => { results := [.lit (.bool true)], args := [d1, d2] }
  | _ => none }
def replyNodesRow : OpenClaim := { program := "ytkhjpobhdpcglaadoor", sum := "9dd61def93a999c427f715917dc9ecc9dbe8b010113586db75715a9a600b8c33", func := "stowage/stowagelaw17.ReplyNodes", spec := "replyNodes", inPlace := ["internal/abi.NoEscape", "internal/bytealg.IndexByteString", "internal/bytealg.IndexString"], unfollowed := true, recurses := true, named := ["internal/strconv.uint64pow10", "math/bits.deBruijn32tab", "math/bits.deBruijn64tab", "internal/bytealg.MaxLen"], loops := true, apart := false, laid := [("math/bits.deBruijn32tab", laid_math_bits_deBruijn32tab), ("math/bits.deBruijn64tab", laid_math_bits_deBruijn64tab), ("internal/strconv.uint64pow10", laid_internal_strconv_uint64pow10)] }
def ReplyNodesSaid : Prop := replyNodesRow.holds Tryd.pinned (OpenSpec.ofChange replyNodesSpec)

/-- ITS FALSE NEIGHBOUR: 'it returns false'. Refute it at one input. -/
def replyNodesWrong : ChangeSpec := { name := "replyNodes", fn := fun _ => fun
  | [d1, d2] => { results := [.lit (.bool false)], args := [d1, d2] }
  | _ => none }
def ReplyNodesWrongFalsely : Prop := replyNodesRow.holds Tryd.pinned (OpenSpec.ofChange replyNodesWrong)

/- THE SECOND FORM. 'bulk': how many values and letters a reading holds, each counted each time it is reached (what is shared counts as often as it is met; a slice's spare places count too). A statement '..UptoSaid' is the law's where the arguments, and the package variables that the reading takes, are together of bulk at most 1048576: NARROWER than '..Said'. Prove '..Said' where nothing that the law and all that it calls make is longer than what came in: it says more and counts as full. Else prove '..UptoSaid'. A law counts once. -/
mutual
def uptoBulk {H : Type} : DataW H → Nat
  | .lit (.string bytes) => bytes.length + 1
  | .lit _ => 1
  | .nil => 1
  | .ptr d => uptoBulk d + 1
  | .slice elems spare => uptoBulkAll elems + uptoBulkAll spare + 1
  | .agg parts => uptoBulkAll parts + 1
  | .iface _ d => uptoBulk d + 1
  | .map entries => uptoBulkEntries entries + 1
  | .held _ => 1
def uptoBulkAll {H : Type} : List (DataW H) → Nat
  | [] => 0
  | d :: r => uptoBulk d + uptoBulkAll r
def uptoBulkEntries {H : Type} : List (Lit × DataW H) → Nat
  | [] => 0
  | x :: r => uptoBulkEntry x + uptoBulkEntries r
def uptoBulkEntry {H : Type} : Lit × DataW H → Nat
  | (.string bytes, d) => bytes.length + uptoBulk d + 1
  | (_, d) => uptoBulk d + 1
 end
def uptoSmall : (H : Type) → List (DataW H) → Bool := fun _ ds => decide (uptoBulkAll ds ≤ 1048576)
def OpenSpec.upto (s : _root_.Go.ChangeSpec) : _root_.Go.OpenSpec := { _root_.Go.OpenSpec.ofChange s with cond := some uptoSmall }

/-- 'stowagelaw17.ReplyParses', WHERE WHAT IT READS IS OF BULK AT MOST 1048576: true; the input reads as it did. -/
def replyParsesUptoRow : OpenClaim := { program := "ytkhjpobhdpcglaadoor", sum := "9dd61def93a999c427f715917dc9ecc9dbe8b010113586db75715a9a600b8c33", func := "stowage/stowagelaw17.ReplyParses", spec := "replyParses", inPlace := ["internal/bytealg.IndexByteString", "internal/bytealg.IndexString", "internal/abi.NoEscape"], unfollowed := true, recurses := true, named := ["internal/bytealg.MaxLen", "internal/strconv.uint64pow10", "math/bits.deBruijn32tab", "math/bits.deBruijn64tab"], apart := false, laid := [("math/bits.deBruijn32tab", laid_math_bits_deBruijn32tab), ("math/bits.deBruijn64tab", laid_math_bits_deBruijn64tab), ("internal/strconv.uint64pow10", laid_internal_strconv_uint64pow10)], narrowed := true }
def ReplyParsesUptoSaid : Prop := replyParsesUptoRow.holds Tryd.pinned (OpenSpec.upto replyParsesSpec)

/-- 'stowagelaw13.XmlParses', WHERE WHAT IT READS IS OF BULK AT MOST 1048576: true; the input reads as it did. -/
def xmlParsesUptoRow : OpenClaim := { program := "ytkhjpobhdpcglaadoor", sum := "9dd61def93a999c427f715917dc9ecc9dbe8b010113586db75715a9a600b8c33", func := "stowage/stowagelaw13.XmlParses", spec := "xmlParses", inPlace := ["internal/bytealg.IndexByteString", "internal/bytealg.IndexString", "internal/bytealg.CountString", "internal/abi.NoEscape", "internal/bytealg.MakeNoZero"], recurses := true, named := ["internal/bytealg.MaxLen", "unicode/utf8.first", "unicode/utf8.acceptRanges"], apart := false, laid := [("unicode/utf8.acceptRanges", laid_unicode_utf8_acceptRanges), ("unicode/utf8.first", laid_unicode_utf8_first)], narrowed := true }
def XmlParsesUptoSaid : Prop := xmlParsesUptoRow.holds Tryd.pinned (OpenSpec.upto xmlParsesSpec)

/-- 'stowagelaw13.XmlTexts', WHERE WHAT IT READS IS OF BULK AT MOST 1048576: true; the input reads as it did. -/
def xmlTextsUptoRow : OpenClaim := { program := "ytkhjpobhdpcglaadoor", sum := "9dd61def93a999c427f715917dc9ecc9dbe8b010113586db75715a9a600b8c33", func := "stowage/stowagelaw13.XmlTexts", spec := "xmlTexts", inPlace := ["internal/bytealg.CountString", "internal/bytealg.IndexByteString", "internal/bytealg.IndexString", "internal/abi.NoEscape", "internal/bytealg.MakeNoZero"], recurses := true, named := ["internal/bytealg.MaxLen", "unicode/utf8.first", "unicode/utf8.acceptRanges"], apart := false, laid := [("unicode/utf8.acceptRanges", laid_unicode_utf8_acceptRanges), ("unicode/utf8.first", laid_unicode_utf8_first)], narrowed := true }
def XmlTextsUptoSaid : Prop := xmlTextsUptoRow.holds Tryd.pinned (OpenSpec.upto xmlTextsSpec)

/-- 'stowagelaw13.XmlBack', WHERE WHAT IT READS IS OF BULK AT MOST 1048576: true; the input reads as it did. -/
def xmlBackUptoRow : OpenClaim := { program := "ytkhjpobhdpcglaadoor", sum := "9dd61def93a999c427f715917dc9ecc9dbe8b010113586db75715a9a600b8c33", func := "stowage/stowagelaw13.XmlBack", spec := "xmlBack", inPlace := ["internal/bytealg.IndexByteString", "internal/bytealg.IndexString", "internal/bytealg.CountString", "internal/abi.NoEscape", "internal/bytealg.MakeNoZero"], recurses := true, named := ["internal/bytealg.MaxLen", "unicode/utf8.first", "unicode/utf8.acceptRanges"], loops := true, apart := false, laid := [("unicode/utf8.acceptRanges", laid_unicode_utf8_acceptRanges), ("unicode/utf8.first", laid_unicode_utf8_first)], narrowed := true }
def XmlBackUptoSaid : Prop := xmlBackUptoRow.holds Tryd.pinned (OpenSpec.upto xmlBackSpec)

/-- 'stowagelaw13.XmlLent', WHERE WHAT IT READS IS OF BULK AT MOST 1048576: true; the input reads as it did. -/
def xmlLentUptoRow : OpenClaim := { program := "ytkhjpobhdpcglaadoor", sum := "9dd61def93a999c427f715917dc9ecc9dbe8b010113586db75715a9a600b8c33", func := "stowage/stowagelaw13.XmlLent", spec := "xmlLent", inPlace := ["internal/bytealg.IndexByteString", "internal/bytealg.IndexString", "internal/bytealg.CountString", "internal/abi.NoEscape", "internal/bytealg.MakeNoZero"], recurses := true, named := ["internal/bytealg.MaxLen", "unicode/utf8.first", "unicode/utf8.acceptRanges"], loops := true, apart := false, laid := [("unicode/utf8.acceptRanges", laid_unicode_utf8_acceptRanges), ("unicode/utf8.first", laid_unicode_utf8_first)], narrowed := true }
def XmlLentUptoSaid : Prop := xmlLentUptoRow.holds Tryd.pinned (OpenSpec.upto xmlLentSpec)

/-- 'stowagelaw13.XmlDepths', WHERE WHAT IT READS IS OF BULK AT MOST 1048576: true; the input reads as it did. -/
def xmlDepthsUptoRow : OpenClaim := { program := "ytkhjpobhdpcglaadoor", sum := "9dd61def93a999c427f715917dc9ecc9dbe8b010113586db75715a9a600b8c33", func := "stowage/stowagelaw13.XmlDepths", spec := "xmlDepths", inPlace := ["internal/bytealg.IndexByteString", "internal/bytealg.IndexString", "internal/bytealg.CountString", "internal/abi.NoEscape", "internal/bytealg.MakeNoZero"], recurses := true, named := ["internal/bytealg.MaxLen", "unicode/utf8.first", "unicode/utf8.acceptRanges"], apart := false, laid := [("unicode/utf8.acceptRanges", laid_unicode_utf8_acceptRanges), ("unicode/utf8.first", laid_unicode_utf8_first)], narrowed := true }
def XmlDepthsUptoSaid : Prop := xmlDepthsUptoRow.holds Tryd.pinned (OpenSpec.upto xmlDepthsSpec)

/-- 'stowagelaw13.XmlWhite', WHERE WHAT IT READS IS OF BULK AT MOST 1048576: true; the input reads as it did. -/
def xmlWhiteUptoRow : OpenClaim := { program := "ytkhjpobhdpcglaadoor", sum := "9dd61def93a999c427f715917dc9ecc9dbe8b010113586db75715a9a600b8c33", func := "stowage/stowagelaw13.XmlWhite", spec := "xmlWhite", inPlace := ["internal/bytealg.IndexByteString", "internal/bytealg.IndexString", "internal/bytealg.CountString", "internal/abi.NoEscape", "internal/bytealg.MakeNoZero"], recurses := true, named := ["internal/bytealg.MaxLen", "unicode/utf8.first", "unicode/utf8.acceptRanges"], apart := false, laid := [("unicode/utf8.acceptRanges", laid_unicode_utf8_acceptRanges), ("unicode/utf8.first", laid_unicode_utf8_first)], narrowed := true }
def XmlWhiteUptoSaid : Prop := xmlWhiteUptoRow.holds Tryd.pinned (OpenSpec.upto xmlWhiteSpec)

/-- 'stowagelaw13.XmlPrints', WHERE WHAT IT READS IS OF BULK AT MOST 1048576: true; the input reads as it did. -/
def xmlPrintsUptoRow : OpenClaim := { program := "ytkhjpobhdpcglaadoor", sum := "9dd61def93a999c427f715917dc9ecc9dbe8b010113586db75715a9a600b8c33", func := "stowage/stowagelaw13.XmlPrints", spec := "xmlPrints", inPlace := ["internal/bytealg.IndexByteString", "internal/bytealg.IndexString", "internal/bytealg.CountString", "internal/abi.NoEscape", "internal/bytealg.MakeNoZero"], recurses := true, named := ["internal/bytealg.MaxLen", "unicode/utf8.first", "unicode/utf8.acceptRanges"], loops := true, apart := false, laid := [("unicode/utf8.acceptRanges", laid_unicode_utf8_acceptRanges), ("unicode/utf8.first", laid_unicode_utf8_first)], narrowed := true }
def XmlPrintsUptoSaid : Prop := xmlPrintsUptoRow.holds Tryd.pinned (OpenSpec.upto xmlPrintsSpec)

/-- 'stowagelaw17.ReplyNodes', WHERE WHAT IT READS IS OF BULK AT MOST 1048576: true; the input reads as it did. -/
def replyNodesUptoRow : OpenClaim := { program := "ytkhjpobhdpcglaadoor", sum := "9dd61def93a999c427f715917dc9ecc9dbe8b010113586db75715a9a600b8c33", func := "stowage/stowagelaw17.ReplyNodes", spec := "replyNodes", inPlace := ["internal/abi.NoEscape", "internal/bytealg.IndexByteString", "internal/bytealg.IndexString"], unfollowed := true, recurses := true, named := ["internal/strconv.uint64pow10", "math/bits.deBruijn32tab", "math/bits.deBruijn64tab", "internal/bytealg.MaxLen"], loops := true, apart := false, laid := [("math/bits.deBruijn32tab", laid_math_bits_deBruijn32tab), ("math/bits.deBruijn64tab", laid_math_bits_deBruijn64tab), ("internal/strconv.uint64pow10", laid_internal_strconv_uint64pow10)], narrowed := true }
def ReplyNodesUptoSaid : Prop := replyNodesUptoRow.holds Tryd.pinned (OpenSpec.upto replyNodesSpec)

end Rows
end Go.Proofs.YtkhjpobhdpcglaaDoor
