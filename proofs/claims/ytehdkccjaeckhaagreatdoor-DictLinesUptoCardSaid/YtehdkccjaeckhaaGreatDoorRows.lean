/-
  NARROWER THAN 'FOR EVERY INPUT', by the rows' own cells (each row's printed sentence says how): DictHeads: laid · DictOrder: laid · DictArticle: laid · DictLines: laid · DictReversal: laid · DictOnce: laid · DictSorted: laid · DictLeads: laid · DictHomonyms: laid.
  DERIVED. THE GIVEN ROWS OF THIS SEAT. 9 by the template 'for every input the law returns true; each argument reads behind the call as it read before'; 0 by the template 'total and deterministic' (their statements: YtehdkccjaeckhaaGreatDoorTotals.lean).
  GIVEN WITH THE SEED: the statements are not yours to turn. If you find one false, say at which input.
  Laid BY PROGRAM, IN A SANDBOX (cutbox-rows.mjs): the forced cells as the released guide's own fill.sh prints them over the translation 4cf2b937e8a03a1f… (all of the seat's roots in one cut). By AI agents, Wed Nov 11 2026. No macro, syntax, notation, axiom, sorry.
-/
import Derived.Test.YtehdkccjaeckhaaGreatDoorChecked
import GoSem.Claim
import GoSem.ClaimJoined
import GoSem.ClaimMapViews
import Derived.JoinedTies
import Derived.KernelRfl
namespace Go.Proofs.YtehdkccjaeckhaaGreatDoor
/- THE CELL 'sum', in the pinned program and in every row, IS THE sha256 OF THE DUMP (.gsa) THAT YtehdkccjaeckhaaGreatDoorProg.lean LOADS. Nothing in Lean hashes anything: it is a label: what it is worth is what the hold of that sum in a sandbox is worth. -/
noncomputable def Tryz.pinned : Pinned := { name := "ytehdkccjaeckhaagreatdoor", sum := "4cf2b937e8a03a1f8ac0e0ee858cd1903a291622ce6e189c800949d6350b949e", checked := Tryz.checked }
namespace Rows
def none {H : Type} : Left H := { results := [], args := [] }

/- WHAT THE LISTED PACKAGE-LEVEL VARIABLES READ AS WHEN THE CALL BEGINS. Each datum BY PROGRAM (the guide's laid-datum.mjs) off the statement by which the dump's own 'gosem.cut.vars' lays the variable. In a bare row this is a premise. The card (YtehdkccjaeckhaaGreatDoorCards.lean) ties it to the program's text. -/
def laid_math_bits_deBruijn32tab {H : Type} : DataW H := .agg [.lit (.int .u8 0), .lit (.int .u8 1), .lit (.int .u8 28), .lit (.int .u8 2), .lit (.int .u8 29), .lit (.int .u8 14), .lit (.int .u8 24), .lit (.int .u8 3), .lit (.int .u8 30), .lit (.int .u8 22), .lit (.int .u8 20), .lit (.int .u8 15), .lit (.int .u8 25), .lit (.int .u8 17), .lit (.int .u8 4), .lit (.int .u8 8), .lit (.int .u8 31), .lit (.int .u8 27), .lit (.int .u8 13), .lit (.int .u8 23), .lit (.int .u8 21), .lit (.int .u8 19), .lit (.int .u8 16), .lit (.int .u8 7), .lit (.int .u8 26), .lit (.int .u8 12), .lit (.int .u8 18), .lit (.int .u8 6), .lit (.int .u8 11), .lit (.int .u8 5), .lit (.int .u8 10), .lit (.int .u8 9)]
def laid_math_bits_deBruijn64tab {H : Type} : DataW H := .agg [.lit (.int .u8 0), .lit (.int .u8 1), .lit (.int .u8 56), .lit (.int .u8 2), .lit (.int .u8 57), .lit (.int .u8 49), .lit (.int .u8 28), .lit (.int .u8 3), .lit (.int .u8 61), .lit (.int .u8 58), .lit (.int .u8 42), .lit (.int .u8 50), .lit (.int .u8 38), .lit (.int .u8 29), .lit (.int .u8 17), .lit (.int .u8 4), .lit (.int .u8 62), .lit (.int .u8 47), .lit (.int .u8 59), .lit (.int .u8 36), .lit (.int .u8 45), .lit (.int .u8 43), .lit (.int .u8 51), .lit (.int .u8 22), .lit (.int .u8 53), .lit (.int .u8 39), .lit (.int .u8 33), .lit (.int .u8 30), .lit (.int .u8 24), .lit (.int .u8 18), .lit (.int .u8 12), .lit (.int .u8 5), .lit (.int .u8 63), .lit (.int .u8 55), .lit (.int .u8 48), .lit (.int .u8 27), .lit (.int .u8 60), .lit (.int .u8 41), .lit (.int .u8 37), .lit (.int .u8 16), .lit (.int .u8 46), .lit (.int .u8 35), .lit (.int .u8 44), .lit (.int .u8 21), .lit (.int .u8 52), .lit (.int .u8 32), .lit (.int .u8 23), .lit (.int .u8 11), .lit (.int .u8 54), .lit (.int .u8 26), .lit (.int .u8 40), .lit (.int .u8 15), .lit (.int .u8 34), .lit (.int .u8 20), .lit (.int .u8 31), .lit (.int .u8 10), .lit (.int .u8 25), .lit (.int .u8 14), .lit (.int .u8 19), .lit (.int .u8 9), .lit (.int .u8 13), .lit (.int .u8 8), .lit (.int .u8 7), .lit (.int .u8 6)]
def laid_internal_strconv_uint64pow10 {H : Type} : DataW H := .agg [.lit (.int .u64 1), .lit (.int .u64 10), .lit (.int .u64 100), .lit (.int .u64 1000), .lit (.int .u64 10000), .lit (.int .u64 100000), .lit (.int .u64 1000000), .lit (.int .u64 10000000), .lit (.int .u64 100000000), .lit (.int .u64 1000000000), .lit (.int .u64 10000000000), .lit (.int .u64 100000000000), .lit (.int .u64 1000000000000), .lit (.int .u64 10000000000000), .lit (.int .u64 100000000000000), .lit (.int .u64 1000000000000000), .lit (.int .u64 10000000000000000), .lit (.int .u64 100000000000000000), .lit (.int .u64 1000000000000000000), .lit (.int .u64 10000000000000000000)]

/-- 'langdoclaw56.DictHeads': WHATEVER THE INPUT: true; the input reads as it did. -/
def dictHeadsSpec : ChangeSpec := { name := "dictHeads", fn := fun _ => fun
  | [d1, d2, d3] => { results := [.lit (.bool true)], args := [d1, d2, d3] }
  | _ => none }
def dictHeadsRow : OpenClaim := { program := "ytehdkccjaeckhaagreatdoor", sum := "4cf2b937e8a03a1f8ac0e0ee858cd1903a291622ce6e189c800949d6350b949e", func := "langdoc/langdoclaw56.DictHeads", spec := "dictHeads", inPlace := ["internal/abi.NoEscape", "slices.overlaps[langdoc/api.Row]", "slices.overlaps[langdoc/api.Part]"], unfollowed := true, recurses := true, named := ["internal/strconv.uint64pow10", "math/bits.deBruijn32tab", "math/bits.deBruijn64tab"], apart := false, laid := [("math/bits.deBruijn32tab", laid_math_bits_deBruijn32tab), ("math/bits.deBruijn64tab", laid_math_bits_deBruijn64tab), ("internal/strconv.uint64pow10", laid_internal_strconv_uint64pow10)] }
def DictHeadsSaid : Prop := dictHeadsRow.holds Tryz.pinned (OpenSpec.ofChange dictHeadsSpec)

/-- ITS FALSE NEIGHBOUR: 'it returns false'. Refute it at one input. -/
def dictHeadsWrong : ChangeSpec := { name := "dictHeads", fn := fun _ => fun
  | [d1, d2, d3] => { results := [.lit (.bool false)], args := [d1, d2, d3] }
  | _ => none }
def DictHeadsWrongFalsely : Prop := dictHeadsRow.holds Tryz.pinned (OpenSpec.ofChange dictHeadsWrong)

/-- 'langdoclaw56.DictOrder': WHATEVER THE INPUT: true; the input reads as it did. -/
def dictOrderSpec : ChangeSpec := { name := "dictOrder", fn := fun _ => fun
  | [d] => { results := [.lit (.bool true)], args := [d] }
  | _ => none }
def dictOrderRow : OpenClaim := { program := "ytehdkccjaeckhaagreatdoor", sum := "4cf2b937e8a03a1f8ac0e0ee858cd1903a291622ce6e189c800949d6350b949e", func := "langdoc/langdoclaw56.DictOrder", spec := "dictOrder", inPlace := ["internal/abi.NoEscape", "slices.overlaps[langdoc/api.Row]", "slices.overlaps[langdoc/api.Part]"], unfollowed := true, recurses := true, named := ["internal/strconv.uint64pow10", "math/bits.deBruijn32tab", "math/bits.deBruijn64tab"], apart := false, laid := [("math/bits.deBruijn32tab", laid_math_bits_deBruijn32tab), ("math/bits.deBruijn64tab", laid_math_bits_deBruijn64tab), ("internal/strconv.uint64pow10", laid_internal_strconv_uint64pow10)] }
def DictOrderSaid : Prop := dictOrderRow.holds Tryz.pinned (OpenSpec.ofChange dictOrderSpec)

/-- ITS FALSE NEIGHBOUR: 'it returns false'. Refute it at one input. -/
def dictOrderWrong : ChangeSpec := { name := "dictOrder", fn := fun _ => fun
  | [d] => { results := [.lit (.bool false)], args := [d] }
  | _ => none }
def DictOrderWrongFalsely : Prop := dictOrderRow.holds Tryz.pinned (OpenSpec.ofChange dictOrderWrong)

/-- 'langdoclaw56.DictArticle': WHATEVER THE INPUT: true; the input reads as it did. -/
def dictArticleSpec : ChangeSpec := { name := "dictArticle", fn := fun _ => fun
  | [d1, d2] => { results := [.lit (.bool true)], args := [d1, d2] }
  | _ => none }
def dictArticleRow : OpenClaim := { program := "ytehdkccjaeckhaagreatdoor", sum := "4cf2b937e8a03a1f8ac0e0ee858cd1903a291622ce6e189c800949d6350b949e", func := "langdoc/langdoclaw56.DictArticle", spec := "dictArticle", inPlace := ["internal/abi.NoEscape", "slices.overlaps[langdoc/api.Row]", "slices.overlaps[langdoc/api.Part]"], unfollowed := true, recurses := true, named := ["internal/strconv.uint64pow10", "math/bits.deBruijn32tab", "math/bits.deBruijn64tab"], apart := false, laid := [("math/bits.deBruijn32tab", laid_math_bits_deBruijn32tab), ("math/bits.deBruijn64tab", laid_math_bits_deBruijn64tab), ("internal/strconv.uint64pow10", laid_internal_strconv_uint64pow10)] }
def DictArticleSaid : Prop := dictArticleRow.holds Tryz.pinned (OpenSpec.ofChange dictArticleSpec)

/-- ITS FALSE NEIGHBOUR: 'it returns false'. Refute it at one input. -/
def dictArticleWrong : ChangeSpec := { name := "dictArticle", fn := fun _ => fun
  | [d1, d2] => { results := [.lit (.bool false)], args := [d1, d2] }
  | _ => none }
def DictArticleWrongFalsely : Prop := dictArticleRow.holds Tryz.pinned (OpenSpec.ofChange dictArticleWrong)

/-- 'langdoclaw56.DictLines': WHATEVER THE INPUT: true; the input reads as it did. -/
def dictLinesSpec : ChangeSpec := { name := "dictLines", fn := fun _ => fun
  | [d] => { results := [.lit (.bool true)], args := [d] }
  | _ => none }
def dictLinesRow : OpenClaim := { program := "ytehdkccjaeckhaagreatdoor", sum := "4cf2b937e8a03a1f8ac0e0ee858cd1903a291622ce6e189c800949d6350b949e", func := "langdoc/langdoclaw56.DictLines", spec := "dictLines", inPlace := ["internal/abi.NoEscape", "slices.overlaps[langdoc/api.Row]", "slices.overlaps[langdoc/api.Part]"], unfollowed := true, recurses := true, named := ["internal/strconv.uint64pow10", "math/bits.deBruijn32tab", "math/bits.deBruijn64tab"], apart := false, laid := [("math/bits.deBruijn32tab", laid_math_bits_deBruijn32tab), ("math/bits.deBruijn64tab", laid_math_bits_deBruijn64tab), ("internal/strconv.uint64pow10", laid_internal_strconv_uint64pow10)] }
def DictLinesSaid : Prop := dictLinesRow.holds Tryz.pinned (OpenSpec.ofChange dictLinesSpec)

/-- ITS FALSE NEIGHBOUR: 'it returns false'. Refute it at one input. -/
def dictLinesWrong : ChangeSpec := { name := "dictLines", fn := fun _ => fun
  | [d] => { results := [.lit (.bool false)], args := [d] }
  | _ => none }
def DictLinesWrongFalsely : Prop := dictLinesRow.holds Tryz.pinned (OpenSpec.ofChange dictLinesWrong)

/-- 'langdoclaw56.DictReversal': WHATEVER THE INPUT: true; the input reads as it did. -/
def dictReversalSpec : ChangeSpec := { name := "dictReversal", fn := fun _ => fun
  | [d] => { results := [.lit (.bool true)], args := [d] }
  | _ => none }
def dictReversalRow : OpenClaim := { program := "ytehdkccjaeckhaagreatdoor", sum := "4cf2b937e8a03a1f8ac0e0ee858cd1903a291622ce6e189c800949d6350b949e", func := "langdoc/langdoclaw56.DictReversal", spec := "dictReversal", inPlace := ["internal/abi.NoEscape", "slices.overlaps[langdoc/api.Row]", "slices.overlaps[langdoc/api.Part]"], unfollowed := true, recurses := true, named := ["internal/strconv.uint64pow10", "math/bits.deBruijn32tab", "math/bits.deBruijn64tab"], apart := false, laid := [("math/bits.deBruijn32tab", laid_math_bits_deBruijn32tab), ("math/bits.deBruijn64tab", laid_math_bits_deBruijn64tab), ("internal/strconv.uint64pow10", laid_internal_strconv_uint64pow10)] }
def DictReversalSaid : Prop := dictReversalRow.holds Tryz.pinned (OpenSpec.ofChange dictReversalSpec)

/-- ITS FALSE NEIGHBOUR: 'it returns false'. Refute it at one input. -/
def dictReversalWrong : ChangeSpec := { name := "dictReversal", fn := fun _ => fun
  | [d] => { results := [.lit (.bool false)], args := [d] }
  | _ => none }
def DictReversalWrongFalsely : Prop := dictReversalRow.holds Tryz.pinned (OpenSpec.ofChange dictReversalWrong)

/-- 'langdoclaw56.DictOnce': WHATEVER THE INPUT: true; the input reads as it did. -/
def dictOnceSpec : ChangeSpec := { name := "dictOnce", fn := fun _ => fun
  | [d] => { results := [.lit (.bool true)], args := [d] }
  | _ => none }
def dictOnceRow : OpenClaim := { program := "ytehdkccjaeckhaagreatdoor", sum := "4cf2b937e8a03a1f8ac0e0ee858cd1903a291622ce6e189c800949d6350b949e", func := "langdoc/langdoclaw56.DictOnce", spec := "dictOnce", inPlace := ["internal/abi.NoEscape", "slices.overlaps[langdoc/api.Row]", "slices.overlaps[langdoc/api.Part]"], unfollowed := true, recurses := true, named := ["internal/strconv.uint64pow10", "math/bits.deBruijn32tab", "math/bits.deBruijn64tab"], apart := false, laid := [("math/bits.deBruijn32tab", laid_math_bits_deBruijn32tab), ("math/bits.deBruijn64tab", laid_math_bits_deBruijn64tab), ("internal/strconv.uint64pow10", laid_internal_strconv_uint64pow10)] }
def DictOnceSaid : Prop := dictOnceRow.holds Tryz.pinned (OpenSpec.ofChange dictOnceSpec)

/-- ITS FALSE NEIGHBOUR: 'it returns false'. Refute it at one input. -/
def dictOnceWrong : ChangeSpec := { name := "dictOnce", fn := fun _ => fun
  | [d] => { results := [.lit (.bool false)], args := [d] }
  | _ => none }
def DictOnceWrongFalsely : Prop := dictOnceRow.holds Tryz.pinned (OpenSpec.ofChange dictOnceWrong)

/-- 'langdoclaw56.DictSorted': WHATEVER THE INPUT: true; the input reads as it did. -/
def dictSortedSpec : ChangeSpec := { name := "dictSorted", fn := fun _ => fun
  | [d] => { results := [.lit (.bool true)], args := [d] }
  | _ => none }
def dictSortedRow : OpenClaim := { program := "ytehdkccjaeckhaagreatdoor", sum := "4cf2b937e8a03a1f8ac0e0ee858cd1903a291622ce6e189c800949d6350b949e", func := "langdoc/langdoclaw56.DictSorted", spec := "dictSorted", inPlace := ["internal/abi.NoEscape", "slices.overlaps[langdoc/api.Row]", "slices.overlaps[langdoc/api.Part]"], unfollowed := true, recurses := true, named := ["internal/strconv.uint64pow10", "math/bits.deBruijn32tab", "math/bits.deBruijn64tab"], apart := false, laid := [("math/bits.deBruijn32tab", laid_math_bits_deBruijn32tab), ("math/bits.deBruijn64tab", laid_math_bits_deBruijn64tab), ("internal/strconv.uint64pow10", laid_internal_strconv_uint64pow10)] }
def DictSortedSaid : Prop := dictSortedRow.holds Tryz.pinned (OpenSpec.ofChange dictSortedSpec)

/-- ITS FALSE NEIGHBOUR: 'it returns false'. Refute it at one input. -/
def dictSortedWrong : ChangeSpec := { name := "dictSorted", fn := fun _ => fun
  | [d] => { results := [.lit (.bool false)], args := [d] }
  | _ => none }
def DictSortedWrongFalsely : Prop := dictSortedRow.holds Tryz.pinned (OpenSpec.ofChange dictSortedWrong)

/-- 'langdoclaw56.DictLeads': WHATEVER THE INPUT: true; the input reads as it did. -/
def dictLeadsSpec : ChangeSpec := { name := "dictLeads", fn := fun _ => fun
  | [d] => { results := [.lit (.bool true)], args := [d] }
  | _ => none }
def dictLeadsRow : OpenClaim := { program := "ytehdkccjaeckhaagreatdoor", sum := "4cf2b937e8a03a1f8ac0e0ee858cd1903a291622ce6e189c800949d6350b949e", func := "langdoc/langdoclaw56.DictLeads", spec := "dictLeads", inPlace := ["internal/abi.NoEscape", "slices.overlaps[langdoc/api.Row]", "slices.overlaps[langdoc/api.Part]"], unfollowed := true, recurses := true, named := ["internal/strconv.uint64pow10", "math/bits.deBruijn32tab", "math/bits.deBruijn64tab"], apart := false, laid := [("math/bits.deBruijn32tab", laid_math_bits_deBruijn32tab), ("math/bits.deBruijn64tab", laid_math_bits_deBruijn64tab), ("internal/strconv.uint64pow10", laid_internal_strconv_uint64pow10)] }
def DictLeadsSaid : Prop := dictLeadsRow.holds Tryz.pinned (OpenSpec.ofChange dictLeadsSpec)

/-- ITS FALSE NEIGHBOUR: 'it returns false'. Refute it at one input. -/
def dictLeadsWrong : ChangeSpec := { name := "dictLeads", fn := fun _ => fun
  | [d] => { results := [.lit (.bool false)], args := [d] }
  | _ => none }
def DictLeadsWrongFalsely : Prop := dictLeadsRow.holds Tryz.pinned (OpenSpec.ofChange dictLeadsWrong)

/-- 'langdoclaw56.DictHomonyms': WHATEVER THE INPUT: true; the input reads as it did. -/
def dictHomonymsSpec : ChangeSpec := { name := "dictHomonyms", fn := fun _ => fun
  | [d] => { results := [.lit (.bool true)], args := [d] }
  | _ => none }
def dictHomonymsRow : OpenClaim := { program := "ytehdkccjaeckhaagreatdoor", sum := "4cf2b937e8a03a1f8ac0e0ee858cd1903a291622ce6e189c800949d6350b949e", func := "langdoc/langdoclaw56.DictHomonyms", spec := "dictHomonyms", inPlace := ["internal/abi.NoEscape", "slices.overlaps[langdoc/api.Row]", "slices.overlaps[langdoc/api.Part]"], unfollowed := true, recurses := true, named := ["internal/strconv.uint64pow10", "math/bits.deBruijn32tab", "math/bits.deBruijn64tab"], apart := false, laid := [("math/bits.deBruijn32tab", laid_math_bits_deBruijn32tab), ("math/bits.deBruijn64tab", laid_math_bits_deBruijn64tab), ("internal/strconv.uint64pow10", laid_internal_strconv_uint64pow10)] }
def DictHomonymsSaid : Prop := dictHomonymsRow.holds Tryz.pinned (OpenSpec.ofChange dictHomonymsSpec)

/-- ITS FALSE NEIGHBOUR: 'it returns false'. Refute it at one input. -/
def dictHomonymsWrong : ChangeSpec := { name := "dictHomonyms", fn := fun _ => fun
  | [d] => { results := [.lit (.bool false)], args := [d] }
  | _ => none }
def DictHomonymsWrongFalsely : Prop := dictHomonymsRow.holds Tryz.pinned (OpenSpec.ofChange dictHomonymsWrong)

/- THE SECOND FORM. 'bulk': how many values and letters a reading holds, each counted each time it is reached (what is shared counts as often as it is met; a slice's spare places count too). A statement '..UptoSaid' is the law's where the arguments, and the package variables that the reading takes, are together of bulk at most 1048576: NARROWER than '..Said'. Prove '..Said' where nothing that the law and all that it calls make is longer than what came in: it says more and counts as full. Else prove '..UptoSaid'. A law counts once. -/
mutual
def uptoBulk {H : Type} : DataW H → Nat
  | .lit (.string bytes) => bytes.length + 1
  | .lit _ => 1
  | .nil => 1
  | .ptr d => uptoBulk d + 1
  | .slice elems spare => uptoBulkAll elems + uptoBulkAll spare + 1
  | .agg parts => uptoBulkAll parts + 1
  | .iface _ d => uptoBulk d + 1
  | .map entries => uptoBulkEntries entries + 1
  | .held _ => 1
def uptoBulkAll {H : Type} : List (DataW H) → Nat
  | [] => 0
  | d :: r => uptoBulk d + uptoBulkAll r
def uptoBulkEntries {H : Type} : List (Lit × DataW H) → Nat
  | [] => 0
  | x :: r => uptoBulkEntry x + uptoBulkEntries r
def uptoBulkEntry {H : Type} : Lit × DataW H → Nat
  | (.string bytes, d) => bytes.length + uptoBulk d + 1
  | (_, d) => uptoBulk d + 1
 end
def uptoSmall : (H : Type) → List (DataW H) → Bool := fun _ ds => decide (uptoBulkAll ds ≤ 1048576)
def OpenSpec.upto (s : _root_.Go.ChangeSpec) : _root_.Go.OpenSpec := { _root_.Go.OpenSpec.ofChange s with cond := some uptoSmall }

/-- 'langdoclaw56.DictHeads', WHERE WHAT IT READS IS OF BULK AT MOST 1048576: true; the input reads as it did. -/
def dictHeadsUptoRow : OpenClaim := { program := "ytehdkccjaeckhaagreatdoor", sum := "4cf2b937e8a03a1f8ac0e0ee858cd1903a291622ce6e189c800949d6350b949e", func := "langdoc/langdoclaw56.DictHeads", spec := "dictHeads", inPlace := ["internal/abi.NoEscape", "slices.overlaps[langdoc/api.Row]", "slices.overlaps[langdoc/api.Part]"], unfollowed := true, recurses := true, named := ["internal/strconv.uint64pow10", "math/bits.deBruijn32tab", "math/bits.deBruijn64tab"], apart := false, laid := [("math/bits.deBruijn32tab", laid_math_bits_deBruijn32tab), ("math/bits.deBruijn64tab", laid_math_bits_deBruijn64tab), ("internal/strconv.uint64pow10", laid_internal_strconv_uint64pow10)], narrowed := true }
def DictHeadsUptoSaid : Prop := dictHeadsUptoRow.holds Tryz.pinned (OpenSpec.upto dictHeadsSpec)

/-- 'langdoclaw56.DictOrder', WHERE WHAT IT READS IS OF BULK AT MOST 1048576: true; the input reads as it did. -/
def dictOrderUptoRow : OpenClaim := { program := "ytehdkccjaeckhaagreatdoor", sum := "4cf2b937e8a03a1f8ac0e0ee858cd1903a291622ce6e189c800949d6350b949e", func := "langdoc/langdoclaw56.DictOrder", spec := "dictOrder", inPlace := ["internal/abi.NoEscape", "slices.overlaps[langdoc/api.Row]", "slices.overlaps[langdoc/api.Part]"], unfollowed := true, recurses := true, named := ["internal/strconv.uint64pow10", "math/bits.deBruijn32tab", "math/bits.deBruijn64tab"], apart := false, laid := [("math/bits.deBruijn32tab", laid_math_bits_deBruijn32tab), ("math/bits.deBruijn64tab", laid_math_bits_deBruijn64tab), ("internal/strconv.uint64pow10", laid_internal_strconv_uint64pow10)], narrowed := true }
def DictOrderUptoSaid : Prop := dictOrderUptoRow.holds Tryz.pinned (OpenSpec.upto dictOrderSpec)

/-- 'langdoclaw56.DictArticle', WHERE WHAT IT READS IS OF BULK AT MOST 1048576: true; the input reads as it did. -/
def dictArticleUptoRow : OpenClaim := { program := "ytehdkccjaeckhaagreatdoor", sum := "4cf2b937e8a03a1f8ac0e0ee858cd1903a291622ce6e189c800949d6350b949e", func := "langdoc/langdoclaw56.DictArticle", spec := "dictArticle", inPlace := ["internal/abi.NoEscape", "slices.overlaps[langdoc/api.Row]", "slices.overlaps[langdoc/api.Part]"], unfollowed := true, recurses := true, named := ["internal/strconv.uint64pow10", "math/bits.deBruijn32tab", "math/bits.deBruijn64tab"], apart := false, laid := [("math/bits.deBruijn32tab", laid_math_bits_deBruijn32tab), ("math/bits.deBruijn64tab", laid_math_bits_deBruijn64tab), ("internal/strconv.uint64pow10", laid_internal_strconv_uint64pow10)], narrowed := true }
def DictArticleUptoSaid : Prop := dictArticleUptoRow.holds Tryz.pinned (OpenSpec.upto dictArticleSpec)

/-- 'langdoclaw56.DictLines', WHERE WHAT IT READS IS OF BULK AT MOST 1048576: true; the input reads as it did. -/
def dictLinesUptoRow : OpenClaim := { program := "ytehdkccjaeckhaagreatdoor", sum := "4cf2b937e8a03a1f8ac0e0ee858cd1903a291622ce6e189c800949d6350b949e", func := "langdoc/langdoclaw56.DictLines", spec := "dictLines", inPlace := ["internal/abi.NoEscape", "slices.overlaps[langdoc/api.Row]", "slices.overlaps[langdoc/api.Part]"], unfollowed := true, recurses := true, named := ["internal/strconv.uint64pow10", "math/bits.deBruijn32tab", "math/bits.deBruijn64tab"], apart := false, laid := [("math/bits.deBruijn32tab", laid_math_bits_deBruijn32tab), ("math/bits.deBruijn64tab", laid_math_bits_deBruijn64tab), ("internal/strconv.uint64pow10", laid_internal_strconv_uint64pow10)], narrowed := true }
def DictLinesUptoSaid : Prop := dictLinesUptoRow.holds Tryz.pinned (OpenSpec.upto dictLinesSpec)

/-- 'langdoclaw56.DictReversal', WHERE WHAT IT READS IS OF BULK AT MOST 1048576: true; the input reads as it did. -/
def dictReversalUptoRow : OpenClaim := { program := "ytehdkccjaeckhaagreatdoor", sum := "4cf2b937e8a03a1f8ac0e0ee858cd1903a291622ce6e189c800949d6350b949e", func := "langdoc/langdoclaw56.DictReversal", spec := "dictReversal", inPlace := ["internal/abi.NoEscape", "slices.overlaps[langdoc/api.Row]", "slices.overlaps[langdoc/api.Part]"], unfollowed := true, recurses := true, named := ["internal/strconv.uint64pow10", "math/bits.deBruijn32tab", "math/bits.deBruijn64tab"], apart := false, laid := [("math/bits.deBruijn32tab", laid_math_bits_deBruijn32tab), ("math/bits.deBruijn64tab", laid_math_bits_deBruijn64tab), ("internal/strconv.uint64pow10", laid_internal_strconv_uint64pow10)], narrowed := true }
def DictReversalUptoSaid : Prop := dictReversalUptoRow.holds Tryz.pinned (OpenSpec.upto dictReversalSpec)

/-- 'langdoclaw56.DictOnce', WHERE WHAT IT READS IS OF BULK AT MOST 1048576: true; the input reads as it did. -/
def dictOnceUptoRow : OpenClaim := { program := "ytehdkccjaeckhaagreatdoor", sum := "4cf2b937e8a03a1f8ac0e0ee858cd1903a291622ce6e189c800949d6350b949e", func := "langdoc/langdoclaw56.DictOnce", spec := "dictOnce", inPlace := ["internal/abi.NoEscape", "slices.overlaps[langdoc/api.Row]", "slices.overlaps[langdoc/api.Part]"], unfollowed := true, recurses := true, named := ["internal/strconv.uint64pow10", "math/bits.deBruijn32tab", "math/bits.deBruijn64tab"], apart := false, laid := [("math/bits.deBruijn32tab", laid_math_bits_deBruijn32tab), ("math/bits.deBruijn64tab", laid_math_bits_deBruijn64tab), ("internal/strconv.uint64pow10", laid_internal_strconv_uint64pow10)], narrowed := true }
def DictOnceUptoSaid : Prop := dictOnceUptoRow.holds Tryz.pinned (OpenSpec.upto dictOnceSpec)

/-- 'langdoclaw56.DictSorted', WHERE WHAT IT READS IS OF BULK AT MOST 1048576: true; the input reads as it did. -/
def dictSortedUptoRow : OpenClaim := { program := "ytehdkccjaeckhaagreatdoor", sum := "4cf2b937e8a03a1f8ac0e0ee858cd1903a291622ce6e189c800949d6350b949e", func := "langdoc/langdoclaw56.DictSorted", spec := "dictSorted", inPlace := ["internal/abi.NoEscape", "slices.overlaps[langdoc/api.Row]", "slices.overlaps[langdoc/api.Part]"], unfollowed := true, recurses := true, named := ["internal/strconv.uint64pow10", "math/bits.deBruijn32tab", "math/bits.deBruijn64tab"], apart := false, laid := [("math/bits.deBruijn32tab", laid_math_bits_deBruijn32tab), ("math/bits.deBruijn64tab", laid_math_bits_deBruijn64tab), ("internal/strconv.uint64pow10", laid_internal_strconv_uint64pow10)], narrowed := true }
def DictSortedUptoSaid : Prop := dictSortedUptoRow.holds Tryz.pinned (OpenSpec.upto dictSortedSpec)

/-- 'langdoclaw56.DictLeads', WHERE WHAT IT READS IS OF BULK AT MOST 1048576: true; the input reads as it did. -/
def dictLeadsUptoRow : OpenClaim := { program := "ytehdkccjaeckhaagreatdoor", sum := "4cf2b937e8a03a1f8ac0e0ee858cd1903a291622ce6e189c800949d6350b949e", func := "langdoc/langdoclaw56.DictLeads", spec := "dictLeads", inPlace := ["internal/abi.NoEscape", "slices.overlaps[langdoc/api.Row]", "slices.overlaps[langdoc/api.Part]"], unfollowed := true, recurses := true, named := ["internal/strconv.uint64pow10", "math/bits.deBruijn32tab", "math/bits.deBruijn64tab"], apart := false, laid := [("math/bits.deBruijn32tab", laid_math_bits_deBruijn32tab), ("math/bits.deBruijn64tab", laid_math_bits_deBruijn64tab), ("internal/strconv.uint64pow10", laid_internal_strconv_uint64pow10)], narrowed := true }
def DictLeadsUptoSaid : Prop := dictLeadsUptoRow.holds Tryz.pinned (OpenSpec.upto dictLeadsSpec)

/-- 'langdoclaw56.DictHomonyms', WHERE WHAT IT READS IS OF BULK AT MOST 1048576: true; the input reads as it did. -/
def dictHomonymsUptoRow : OpenClaim := { program := "ytehdkccjaeckhaagreatdoor", sum := "4cf2b937e8a03a1f8ac0e0ee858cd1903a291622ce6e189c800949d6350b949e", func := "langdoc/langdoclaw56.DictHomonyms", spec := "dictHomonyms", inPlace := ["internal/abi.NoEscape", "slices.overlaps[langdoc/api.Row]", "slices.overlaps[langdoc/api.Part]"], unfollowed := true, recurses := true, named := ["internal/strconv.uint64pow10", "math/bits.deBruijn32tab", "math/bits.deBruijn64tab"], apart := false, laid := [("math/bits.deBruijn32tab", laid_math_bits_deBruijn32tab), ("math/bits.deBruijn64tab", laid_math_bits_deBruijn64tab), ("internal/strconv.uint64pow10", laid_internal_strconv_uint64pow10)], narrowed := true }
def DictHomonymsUptoSaid : Prop := dictHomonymsUptoRow.holds Tryz.pinned (OpenSpec.upto dictHomonymsSpec)

end Rows
end Go.Proofs.YtehdkccjaeckhaaGreatDoor
