/-
  NARROWER THAN 'FOR EVERY INPUT', by the rows' own cells (each row's printed sentence says how): LexiconChecks: laid · LexiconGets: laid · LexiconFinds: laid · LexiconPuts: laid · LexiconDrops: laid · LexiconSame: laid · LexiconRight: laid · LexiconUndone: laid · LexiconHomonyms: laid.
  DERIVED. THE GIVEN ROWS OF THIS SEAT. 9 by the template 'for every input the law returns true; each argument reads behind the call as it read before'; 0 by the template 'total and deterministic' (their statements: YtdmmhemfnnbddaaGreatDoorTotals.lean).
  GIVEN WITH THE SEED: the statements are not yours to turn. If you find one false, say at which input.
  Laid BY PROGRAM, IN A SANDBOX (cutbox-rows.mjs): the forced cells as the released guide's own fill.sh prints them over the translation ecce2b2e4317e5bc… (all of the seat's roots in one cut). By AI agents, Wed Nov 11 2026. No macro, syntax, notation, axiom, sorry.
-/
import Derived.Test.YtdmmhemfnnbddaaGreatDoorChecked
import GoSem.PinnedTables
import GoSem.Claim
import GoSem.ClaimJoined
import GoSem.ClaimMapViews
import Derived.JoinedTies
import Derived.KernelRfl
namespace Go.Proofs.YtdmmhemfnnbddaaGreatDoor
/- THE CELL 'sum', in the pinned program and in every row, IS THE sha256 OF THE DUMP (.gsa) THAT YtdmmhemfnnbddaaGreatDoorProg.lean LOADS. Nothing in Lean hashes anything: it is a label: what it is worth is what the hold of that sum in a sandbox is worth. -/
noncomputable def Tryz.pinned : Pinned := { name := "ytdmmhemfnnbddaagreatdoor", sum := "ecce2b2e4317e5bc8c1f66cdcf5e0856f738ee25514fc5ba74a362bf19417453", checked := Tryz.checked }
namespace Rows
def none {H : Type} : Left H := { results := [], args := [] }

/- WHAT THE LISTED PACKAGE-LEVEL VARIABLES READ AS WHEN THE CALL BEGINS. Each datum BY PROGRAM (the guide's laid-datum.mjs) off the statement by which the dump's own 'gosem.cut.vars' lays the variable. In a bare row this is a premise. The card (YtdmmhemfnnbddaaGreatDoorCards.lean) ties it to the program's text. -/
def laid_unicode_utf8_acceptRanges {H : Type} : DataW H := .agg [.agg [.lit (.int .u8 128), .lit (.int .u8 191)], .agg [.lit (.int .u8 160), .lit (.int .u8 191)], .agg [.lit (.int .u8 128), .lit (.int .u8 159)], .agg [.lit (.int .u8 144), .lit (.int .u8 191)], .agg [.lit (.int .u8 128), .lit (.int .u8 143)], .agg [.lit (.int .u8 0), .lit (.int .u8 0)], .agg [.lit (.int .u8 0), .lit (.int .u8 0)], .agg [.lit (.int .u8 0), .lit (.int .u8 0)], .agg [.lit (.int .u8 0), .lit (.int .u8 0)], .agg [.lit (.int .u8 0), .lit (.int .u8 0)], .agg [.lit (.int .u8 0), .lit (.int .u8 0)], .agg [.lit (.int .u8 0), .lit (.int .u8 0)], .agg [.lit (.int .u8 0), .lit (.int .u8 0)], .agg [.lit (.int .u8 0), .lit (.int .u8 0)], .agg [.lit (.int .u8 0), .lit (.int .u8 0)], .agg [.lit (.int .u8 0), .lit (.int .u8 0)]]
/-- One of Go's own tables, pinned by name: the form's constant. -/
def laid_unicode_utf8_first : DataW Unit := Go.Pinned.utf8First

/-- 'langdoclaw25.LexiconChecks': WHATEVER THE INPUT: true; the input reads as it did. -/
def lexiconChecksSpec : ChangeSpec := { name := "lexiconChecks", fn := fun _ => fun
  | [d] => { results := [.lit (.bool true)], args := [d] }
  | _ => none }
def lexiconChecksRow : OpenClaim := { program := "ytdmmhemfnnbddaagreatdoor", sum := "ecce2b2e4317e5bc8c1f66cdcf5e0856f738ee25514fc5ba74a362bf19417453", func := "langdoc/langdoclaw25.LexiconChecks", spec := "lexiconChecks", inPlace := ["slices.overlaps[langdoc/api.Entry]", "internal/bytealg.IndexByteString", "internal/bytealg.IndexString"], unfollowed := true, recurses := true, named := ["unicode/utf8.first", "unicode/utf8.acceptRanges", "internal/bytealg.MaxLen"], apart := false, laid := [("unicode/utf8.acceptRanges", laid_unicode_utf8_acceptRanges), ("unicode/utf8.first", laid_unicode_utf8_first)] }
def LexiconChecksSaid : Prop := lexiconChecksRow.holds Tryz.pinned (OpenSpec.ofChange lexiconChecksSpec)

/-- ITS FALSE NEIGHBOUR: 'it returns false'. Refute it at one input. -/
def lexiconChecksWrong : ChangeSpec := { name := "lexiconChecks", fn := fun _ => fun
  | [d] => { results := [.lit (.bool false)], args := [d] }
  | _ => none }
def LexiconChecksWrongFalsely : Prop := lexiconChecksRow.holds Tryz.pinned (OpenSpec.ofChange lexiconChecksWrong)

/-- 'langdoclaw25.LexiconGets': WHATEVER THE INPUT: true; the input reads as it did. -/
def lexiconGetsSpec : ChangeSpec := { name := "lexiconGets", fn := fun _ => fun
  | [d1, d2] => { results := [.lit (.bool true)], args := [d1, d2] }
  | _ => none }
def lexiconGetsRow : OpenClaim := { program := "ytdmmhemfnnbddaagreatdoor", sum := "ecce2b2e4317e5bc8c1f66cdcf5e0856f738ee25514fc5ba74a362bf19417453", func := "langdoc/langdoclaw25.LexiconGets", spec := "lexiconGets", inPlace := ["slices.overlaps[langdoc/api.Entry]", "internal/bytealg.IndexByteString", "internal/bytealg.IndexString"], unfollowed := true, recurses := true, named := ["unicode/utf8.first", "unicode/utf8.acceptRanges", "internal/bytealg.MaxLen"], apart := false, laid := [("unicode/utf8.acceptRanges", laid_unicode_utf8_acceptRanges), ("unicode/utf8.first", laid_unicode_utf8_first)] }
def LexiconGetsSaid : Prop := lexiconGetsRow.holds Tryz.pinned (OpenSpec.ofChange lexiconGetsSpec)

/-- ITS FALSE NEIGHBOUR: 'it returns false'. Refute it at one input. -/
def lexiconGetsWrong : ChangeSpec := { name := "lexiconGets", fn := fun _ => fun
  | [d1, d2] => { results := [.lit (.bool false)], args := [d1, d2] }
  | _ => none }
def LexiconGetsWrongFalsely : Prop := lexiconGetsRow.holds Tryz.pinned (OpenSpec.ofChange lexiconGetsWrong)

/-- 'langdoclaw25.LexiconFinds': WHATEVER THE INPUT: true; the input reads as it did. -/
def lexiconFindsSpec : ChangeSpec := { name := "lexiconFinds", fn := fun _ => fun
  | [d1, d2] => { results := [.lit (.bool true)], args := [d1, d2] }
  | _ => none }
def lexiconFindsRow : OpenClaim := { program := "ytdmmhemfnnbddaagreatdoor", sum := "ecce2b2e4317e5bc8c1f66cdcf5e0856f738ee25514fc5ba74a362bf19417453", func := "langdoc/langdoclaw25.LexiconFinds", spec := "lexiconFinds", inPlace := ["slices.overlaps[langdoc/api.Entry]", "internal/bytealg.IndexByteString", "internal/bytealg.IndexString"], unfollowed := true, recurses := true, named := ["unicode/utf8.first", "unicode/utf8.acceptRanges", "internal/bytealg.MaxLen"], apart := false, laid := [("unicode/utf8.acceptRanges", laid_unicode_utf8_acceptRanges), ("unicode/utf8.first", laid_unicode_utf8_first)] }
def LexiconFindsSaid : Prop := lexiconFindsRow.holds Tryz.pinned (OpenSpec.ofChange lexiconFindsSpec)

/-- ITS FALSE NEIGHBOUR: 'it returns false'. Refute it at one input. -/
def lexiconFindsWrong : ChangeSpec := { name := "lexiconFinds", fn := fun _ => fun
  | [d1, d2] => { results := [.lit (.bool false)], args := [d1, d2] }
  | _ => none }
def LexiconFindsWrongFalsely : Prop := lexiconFindsRow.holds Tryz.pinned (OpenSpec.ofChange lexiconFindsWrong)

/-- 'langdoclaw25.LexiconPuts': WHATEVER THE INPUT: true; the input reads as it did. -/
def lexiconPutsSpec : ChangeSpec := { name := "lexiconPuts", fn := fun _ => fun
  | [d1, d2] => { results := [.lit (.bool true)], args := [d1, d2] }
  | _ => none }
def lexiconPutsRow : OpenClaim := { program := "ytdmmhemfnnbddaagreatdoor", sum := "ecce2b2e4317e5bc8c1f66cdcf5e0856f738ee25514fc5ba74a362bf19417453", func := "langdoc/langdoclaw25.LexiconPuts", spec := "lexiconPuts", inPlace := ["slices.overlaps[langdoc/api.Entry]", "internal/bytealg.IndexByteString", "internal/bytealg.IndexString"], unfollowed := true, recurses := true, named := ["unicode/utf8.first", "unicode/utf8.acceptRanges", "internal/bytealg.MaxLen"], apart := false, laid := [("unicode/utf8.acceptRanges", laid_unicode_utf8_acceptRanges), ("unicode/utf8.first", laid_unicode_utf8_first)] }
def LexiconPutsSaid : Prop := lexiconPutsRow.holds Tryz.pinned (OpenSpec.ofChange lexiconPutsSpec)

/-- ITS FALSE NEIGHBOUR: 'it returns false'. Refute it at one input. -/
def lexiconPutsWrong : ChangeSpec := { name := "lexiconPuts", fn := fun _ => fun
  | [d1, d2] => { results := [.lit (.bool false)], args := [d1, d2] }
  | _ => none }
def LexiconPutsWrongFalsely : Prop := lexiconPutsRow.holds Tryz.pinned (OpenSpec.ofChange lexiconPutsWrong)

/-- 'langdoclaw25.LexiconDrops': WHATEVER THE INPUT: true; the input reads as it did. -/
def lexiconDropsSpec : ChangeSpec := { name := "lexiconDrops", fn := fun _ => fun
  | [d1, d2] => { results := [.lit (.bool true)], args := [d1, d2] }
  | _ => none }
def lexiconDropsRow : OpenClaim := { program := "ytdmmhemfnnbddaagreatdoor", sum := "ecce2b2e4317e5bc8c1f66cdcf5e0856f738ee25514fc5ba74a362bf19417453", func := "langdoc/langdoclaw25.LexiconDrops", spec := "lexiconDrops", inPlace := ["slices.overlaps[langdoc/api.Entry]", "internal/bytealg.IndexByteString", "internal/bytealg.IndexString"], unfollowed := true, recurses := true, named := ["unicode/utf8.first", "unicode/utf8.acceptRanges", "internal/bytealg.MaxLen"], apart := false, laid := [("unicode/utf8.acceptRanges", laid_unicode_utf8_acceptRanges), ("unicode/utf8.first", laid_unicode_utf8_first)] }
def LexiconDropsSaid : Prop := lexiconDropsRow.holds Tryz.pinned (OpenSpec.ofChange lexiconDropsSpec)

/-- ITS FALSE NEIGHBOUR: 'it returns false'. Refute it at one input. -/
def lexiconDropsWrong : ChangeSpec := { name := "lexiconDrops", fn := fun _ => fun
  | [d1, d2] => { results := [.lit (.bool false)], args := [d1, d2] }
  | _ => none }
def LexiconDropsWrongFalsely : Prop := lexiconDropsRow.holds Tryz.pinned (OpenSpec.ofChange lexiconDropsWrong)

/-- 'langdoclaw25.LexiconSame': WHATEVER THE INPUT: true; the input reads as it did. -/
def lexiconSameSpec : ChangeSpec := { name := "lexiconSame", fn := fun _ => fun
  | [d1, d2] => { results := [.lit (.bool true)], args := [d1, d2] }
  | _ => none }
def lexiconSameRow : OpenClaim := { program := "ytdmmhemfnnbddaagreatdoor", sum := "ecce2b2e4317e5bc8c1f66cdcf5e0856f738ee25514fc5ba74a362bf19417453", func := "langdoc/langdoclaw25.LexiconSame", spec := "lexiconSame", inPlace := ["slices.overlaps[langdoc/api.Entry]", "internal/bytealg.IndexByteString", "internal/bytealg.IndexString"], unfollowed := true, recurses := true, named := ["unicode/utf8.first", "unicode/utf8.acceptRanges", "internal/bytealg.MaxLen"], apart := false, laid := [("unicode/utf8.acceptRanges", laid_unicode_utf8_acceptRanges), ("unicode/utf8.first", laid_unicode_utf8_first)] }
def LexiconSameSaid : Prop := lexiconSameRow.holds Tryz.pinned (OpenSpec.ofChange lexiconSameSpec)

/-- ITS FALSE NEIGHBOUR: 'it returns false'. Refute it at one input. -/
def lexiconSameWrong : ChangeSpec := { name := "lexiconSame", fn := fun _ => fun
  | [d1, d2] => { results := [.lit (.bool false)], args := [d1, d2] }
  | _ => none }
def LexiconSameWrongFalsely : Prop := lexiconSameRow.holds Tryz.pinned (OpenSpec.ofChange lexiconSameWrong)

/-- 'langdoclaw25.LexiconRight': WHATEVER THE INPUT: true; the input reads as it did. -/
def lexiconRightSpec : ChangeSpec := { name := "lexiconRight", fn := fun _ => fun
  | [d1, d2, d3] => { results := [.lit (.bool true)], args := [d1, d2, d3] }
  | _ => none }
def lexiconRightRow : OpenClaim := { program := "ytdmmhemfnnbddaagreatdoor", sum := "ecce2b2e4317e5bc8c1f66cdcf5e0856f738ee25514fc5ba74a362bf19417453", func := "langdoc/langdoclaw25.LexiconRight", spec := "lexiconRight", inPlace := ["slices.overlaps[langdoc/api.Entry]", "internal/bytealg.IndexByteString", "internal/bytealg.IndexString"], unfollowed := true, recurses := true, named := ["unicode/utf8.first", "unicode/utf8.acceptRanges", "internal/bytealg.MaxLen"], apart := false, laid := [("unicode/utf8.acceptRanges", laid_unicode_utf8_acceptRanges), ("unicode/utf8.first", laid_unicode_utf8_first)] }
def LexiconRightSaid : Prop := lexiconRightRow.holds Tryz.pinned (OpenSpec.ofChange lexiconRightSpec)

/-- ITS FALSE NEIGHBOUR: 'it returns false'. Refute it at one input. -/
def lexiconRightWrong : ChangeSpec := { name := "lexiconRight", fn := fun _ => fun
  | [d1, d2, d3] => { results := [.lit (.bool false)], args := [d1, d2, d3] }
  | _ => none }
def LexiconRightWrongFalsely : Prop := lexiconRightRow.holds Tryz.pinned (OpenSpec.ofChange lexiconRightWrong)

/-- 'langdoclaw25.LexiconUndone': WHATEVER THE INPUT: true; the input reads as it did. -/
def lexiconUndoneSpec : ChangeSpec := { name := "lexiconUndone", fn := fun _ => fun
  | [d1, d2] => { results := [.lit (.bool true)], args := [d1, d2] }
  | _ => none }
def lexiconUndoneRow : OpenClaim := { program := "ytdmmhemfnnbddaagreatdoor", sum := "ecce2b2e4317e5bc8c1f66cdcf5e0856f738ee25514fc5ba74a362bf19417453", func := "langdoc/langdoclaw25.LexiconUndone", spec := "lexiconUndone", inPlace := ["slices.overlaps[langdoc/api.Entry]", "internal/bytealg.IndexByteString", "internal/bytealg.IndexString"], unfollowed := true, recurses := true, named := ["unicode/utf8.first", "unicode/utf8.acceptRanges", "internal/bytealg.MaxLen"], apart := false, laid := [("unicode/utf8.acceptRanges", laid_unicode_utf8_acceptRanges), ("unicode/utf8.first", laid_unicode_utf8_first)] }
def LexiconUndoneSaid : Prop := lexiconUndoneRow.holds Tryz.pinned (OpenSpec.ofChange lexiconUndoneSpec)

/-- ITS FALSE NEIGHBOUR: 'it returns false'. Refute it at one input. -/
def lexiconUndoneWrong : ChangeSpec := { name := "lexiconUndone", fn := fun _ => fun
  | [d1, d2] => { results := [.lit (.bool false)], args := [d1, d2] }
  | _ => none }
def LexiconUndoneWrongFalsely : Prop := lexiconUndoneRow.holds Tryz.pinned (OpenSpec.ofChange lexiconUndoneWrong)

/-- 'langdoclaw25.LexiconHomonyms': WHATEVER THE INPUT: true; the input reads as it did. -/
def lexiconHomonymsSpec : ChangeSpec := { name := "lexiconHomonyms", fn := fun _ => fun
  | [d] => { results := [.lit (.bool true)], args := [d] }
  | _ => none }
def lexiconHomonymsRow : OpenClaim := { program := "ytdmmhemfnnbddaagreatdoor", sum := "ecce2b2e4317e5bc8c1f66cdcf5e0856f738ee25514fc5ba74a362bf19417453", func := "langdoc/langdoclaw25.LexiconHomonyms", spec := "lexiconHomonyms", inPlace := ["slices.overlaps[langdoc/api.Entry]", "internal/bytealg.IndexByteString", "internal/bytealg.IndexString"], unfollowed := true, recurses := true, named := ["unicode/utf8.first", "unicode/utf8.acceptRanges", "internal/bytealg.MaxLen"], apart := false, laid := [("unicode/utf8.acceptRanges", laid_unicode_utf8_acceptRanges), ("unicode/utf8.first", laid_unicode_utf8_first)] }
def LexiconHomonymsSaid : Prop := lexiconHomonymsRow.holds Tryz.pinned (OpenSpec.ofChange lexiconHomonymsSpec)

/-- ITS FALSE NEIGHBOUR: 'it returns false'. Refute it at one input. -/
def lexiconHomonymsWrong : ChangeSpec := { name := "lexiconHomonyms", fn := fun _ => fun
  | [d] => { results := [.lit (.bool false)], args := [d] }
  | _ => none }
def LexiconHomonymsWrongFalsely : Prop := lexiconHomonymsRow.holds Tryz.pinned (OpenSpec.ofChange lexiconHomonymsWrong)

/- THE SECOND FORM. 'bulk': how many values and letters a reading holds, each counted each time it is reached (what is shared counts as often as it is met; a slice's spare places count too). A statement '..UptoSaid' is the law's where the arguments, and the package variables that the reading takes, are together of bulk at most 1048576: NARROWER than '..Said'. Prove '..Said' where nothing that the law and all that it calls make is longer than what came in: it says more and counts as full. Else prove '..UptoSaid'. A law counts once. -/
mutual
def uptoBulk {H : Type} : DataW H → Nat
  | .lit (.string bytes) => bytes.length + 1
  | .lit _ => 1
  | .nil => 1
  | .ptr d => uptoBulk d + 1
  | .slice elems spare => uptoBulkAll elems + uptoBulkAll spare + 1
  | .agg parts => uptoBulkAll parts + 1
  | .iface _ d => uptoBulk d + 1
  | .map entries => uptoBulkEntries entries + 1
  | .held _ => 1
def uptoBulkAll {H : Type} : List (DataW H) → Nat
  | [] => 0
  | d :: r => uptoBulk d + uptoBulkAll r
def uptoBulkEntries {H : Type} : List (Lit × DataW H) → Nat
  | [] => 0
  | x :: r => uptoBulkEntry x + uptoBulkEntries r
def uptoBulkEntry {H : Type} : Lit × DataW H → Nat
  | (.string bytes, d) => bytes.length + uptoBulk d + 1
  | (_, d) => uptoBulk d + 1
 end
def uptoSmall : (H : Type) → List (DataW H) → Bool := fun _ ds => decide (uptoBulkAll ds ≤ 1048576)
def OpenSpec.upto (s : _root_.Go.ChangeSpec) : _root_.Go.OpenSpec := { _root_.Go.OpenSpec.ofChange s with cond := some uptoSmall }

/-- 'langdoclaw25.LexiconChecks', WHERE WHAT IT READS IS OF BULK AT MOST 1048576: true; the input reads as it did. -/
def lexiconChecksUptoRow : OpenClaim := { program := "ytdmmhemfnnbddaagreatdoor", sum := "ecce2b2e4317e5bc8c1f66cdcf5e0856f738ee25514fc5ba74a362bf19417453", func := "langdoc/langdoclaw25.LexiconChecks", spec := "lexiconChecks", inPlace := ["slices.overlaps[langdoc/api.Entry]", "internal/bytealg.IndexByteString", "internal/bytealg.IndexString"], unfollowed := true, recurses := true, named := ["unicode/utf8.first", "unicode/utf8.acceptRanges", "internal/bytealg.MaxLen"], apart := false, laid := [("unicode/utf8.acceptRanges", laid_unicode_utf8_acceptRanges), ("unicode/utf8.first", laid_unicode_utf8_first)], narrowed := true }
def LexiconChecksUptoSaid : Prop := lexiconChecksUptoRow.holds Tryz.pinned (OpenSpec.upto lexiconChecksSpec)

/-- 'langdoclaw25.LexiconGets', WHERE WHAT IT READS IS OF BULK AT MOST 1048576: true; the input reads as it did. -/
def lexiconGetsUptoRow : OpenClaim := { program := "ytdmmhemfnnbddaagreatdoor", sum := "ecce2b2e4317e5bc8c1f66cdcf5e0856f738ee25514fc5ba74a362bf19417453", func := "langdoc/langdoclaw25.LexiconGets", spec := "lexiconGets", inPlace := ["slices.overlaps[langdoc/api.Entry]", "internal/bytealg.IndexByteString", "internal/bytealg.IndexString"], unfollowed := true, recurses := true, named := ["unicode/utf8.first", "unicode/utf8.acceptRanges", "internal/bytealg.MaxLen"], apart := false, laid := [("unicode/utf8.acceptRanges", laid_unicode_utf8_acceptRanges), ("unicode/utf8.first", laid_unicode_utf8_first)], narrowed := true }
def LexiconGetsUptoSaid : Prop := lexiconGetsUptoRow.holds Tryz.pinned (OpenSpec.upto lexiconGetsSpec)

/-- 'langdoclaw25.LexiconFinds', WHERE WHAT IT READS IS OF BULK AT MOST 1048576: true; the input reads as it did. -/
def lexiconFindsUptoRow : OpenClaim := { program := "ytdmmhemfnnbddaagreatdoor", sum := "ecce2b2e4317e5bc8c1f66cdcf5e0856f738ee25514fc5ba74a362bf19417453", func := "langdoc/langdoclaw25.LexiconFinds", spec := "lexiconFinds", inPlace := ["slices.overlaps[langdoc/api.Entry]", "internal/bytealg.IndexByteString", "internal/bytealg.IndexString"], unfollowed := true, recurses := true, named := ["unicode/utf8.first", "unicode/utf8.acceptRanges", "internal/bytealg.MaxLen"], apart := false, laid := [("unicode/utf8.acceptRanges", laid_unicode_utf8_acceptRanges), ("unicode/utf8.first", laid_unicode_utf8_first)], narrowed := true }
def LexiconFindsUptoSaid : Prop := lexiconFindsUptoRow.holds Tryz.pinned (OpenSpec.upto lexiconFindsSpec)

/-- 'langdoclaw25.LexiconPuts', WHERE WHAT IT READS IS OF BULK AT MOST 1048576: true; the input reads as it did. -/
def lexiconPutsUptoRow : OpenClaim := { program := "ytdmmhemfnnbddaagreatdoor", sum := "ecce2b2e4317e5bc8c1f66cdcf5e0856f738ee25514fc5ba74a362bf19417453", func := "langdoc/langdoclaw25.LexiconPuts", spec := "lexiconPuts", inPlace := ["slices.overlaps[langdoc/api.Entry]", "internal/bytealg.IndexByteString", "internal/bytealg.IndexString"], unfollowed := true, recurses := true, named := ["unicode/utf8.first", "unicode/utf8.acceptRanges", "internal/bytealg.MaxLen"], apart := false, laid := [("unicode/utf8.acceptRanges", laid_unicode_utf8_acceptRanges), ("unicode/utf8.first", laid_unicode_utf8_first)], narrowed := true }
def LexiconPutsUptoSaid : Prop := lexiconPutsUptoRow.holds Tryz.pinned (OpenSpec.upto lexiconPutsSpec)

/-- 'langdoclaw25.LexiconDrops', WHERE WHAT IT READS IS OF BULK AT MOST 1048576: true; the input reads as it did. -/
def lexiconDropsUptoRow : OpenClaim := { program := "ytdmmhemfnnbddaagreatdoor", sum := "ecce2b2e4317e5bc8c1f66cdcf5e0856f738ee25514fc5ba74a362bf19417453", func := "langdoc/langdoclaw25.LexiconDrops", spec := "lexiconDrops", inPlace := ["slices.overlaps[langdoc/api.Entry]", "internal/bytealg.IndexByteString", "internal/bytealg.IndexString"], unfollowed := true, recurses := true, named := ["unicode/utf8.first", "unicode/utf8.acceptRanges", "internal/bytealg.MaxLen"], apart := false, laid := [("unicode/utf8.acceptRanges", laid_unicode_utf8_acceptRanges), ("unicode/utf8.first", laid_unicode_utf8_first)], narrowed := true }
def LexiconDropsUptoSaid : Prop := lexiconDropsUptoRow.holds Tryz.pinned (OpenSpec.upto lexiconDropsSpec)

/-- 'langdoclaw25.LexiconSame', WHERE WHAT IT READS IS OF BULK AT MOST 1048576: true; the input reads as it did. -/
def lexiconSameUptoRow : OpenClaim := { program := "ytdmmhemfnnbddaagreatdoor", sum := "ecce2b2e4317e5bc8c1f66cdcf5e0856f738ee25514fc5ba74a362bf19417453", func := "langdoc/langdoclaw25.LexiconSame", spec := "lexiconSame", inPlace := ["slices.overlaps[langdoc/api.Entry]", "internal/bytealg.IndexByteString", "internal/bytealg.IndexString"], unfollowed := true, recurses := true, named := ["unicode/utf8.first", "unicode/utf8.acceptRanges", "internal/bytealg.MaxLen"], apart := false, laid := [("unicode/utf8.acceptRanges", laid_unicode_utf8_acceptRanges), ("unicode/utf8.first", laid_unicode_utf8_first)], narrowed := true }
def LexiconSameUptoSaid : Prop := lexiconSameUptoRow.holds Tryz.pinned (OpenSpec.upto lexiconSameSpec)

/-- 'langdoclaw25.LexiconRight', WHERE WHAT IT READS IS OF BULK AT MOST 1048576: true; the input reads as it did. -/
def lexiconRightUptoRow : OpenClaim := { program := "ytdmmhemfnnbddaagreatdoor", sum := "ecce2b2e4317e5bc8c1f66cdcf5e0856f738ee25514fc5ba74a362bf19417453", func := "langdoc/langdoclaw25.LexiconRight", spec := "lexiconRight", inPlace := ["slices.overlaps[langdoc/api.Entry]", "internal/bytealg.IndexByteString", "internal/bytealg.IndexString"], unfollowed := true, recurses := true, named := ["unicode/utf8.first", "unicode/utf8.acceptRanges", "internal/bytealg.MaxLen"], apart := false, laid := [("unicode/utf8.acceptRanges", laid_unicode_utf8_acceptRanges), ("unicode/utf8.first", laid_unicode_utf8_first)], narrowed := true }
def LexiconRightUptoSaid : Prop := lexiconRightUptoRow.holds Tryz.pinned (OpenSpec.upto lexiconRightSpec)

/-- 'langdoclaw25.LexiconUndone', WHERE WHAT IT READS IS OF BULK AT MOST 1048576: true; the input reads as it did. -/
def lexiconUndoneUptoRow : OpenClaim := { program := "ytdmmhemfnnbddaagreatdoor", sum := "ecce2b2e4317e5bc8c1f66cdcf5e0856f738ee25514fc5ba74a362bf19417453", func := "langdoc/langdoclaw25.LexiconUndone", spec := "lexiconUndone", inPlace := ["slices.overlaps[langdoc/api.Entry]", "internal/bytealg.IndexByteString", "internal/bytealg.IndexString"], unfollowed := true, recurses := true, named := ["unicode/utf8.first", "unicode/utf8.acceptRanges", "internal/bytealg.MaxLen"], apart := false, laid := [("unicode/utf8.acceptRanges", laid_unicode_utf8_acceptRanges), ("unicode/utf8.first", laid_unicode_utf8_first)], narrowed := true }
def LexiconUndoneUptoSaid : Prop := lexiconUndoneUptoRow.holds Tryz.pinned (OpenSpec.upto lexiconUndoneSpec)

/-- 'langdoclaw25.LexiconHomonyms', WHERE WHAT IT READS IS OF BULK AT MOST 1048576: true; the input reads as it did. -/
def lexiconHomonymsUptoRow : OpenClaim := { program := "ytdmmhemfnnbddaagreatdoor", sum := "ecce2b2e4317e5bc8c1f66cdcf5e0856f738ee25514fc5ba74a362bf19417453", func := "langdoc/langdoclaw25.LexiconHomonyms", spec := "lexiconHomonyms", inPlace := ["slices.overlaps[langdoc/api.Entry]", "internal/bytealg.IndexByteString", "internal/bytealg.IndexString"], unfollowed := true, recurses := true, named := ["unicode/utf8.first", "unicode/utf8.acceptRanges", "internal/bytealg.MaxLen"], apart := false, laid := [("unicode/utf8.acceptRanges", laid_unicode_utf8_acceptRanges), ("unicode/utf8.first", laid_unicode_utf8_first)], narrowed := true }
def LexiconHomonymsUptoSaid : Prop := lexiconHomonymsUptoRow.holds Tryz.pinned (OpenSpec.upto lexiconHomonymsSpec)

end Rows
end Go.Proofs.YtdmmhemfnnbddaaGreatDoor
