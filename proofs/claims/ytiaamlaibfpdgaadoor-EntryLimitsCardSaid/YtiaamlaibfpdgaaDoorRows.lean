/-
  NARROWER THAN 'FOR EVERY INPUT', by the rows' own cells (each row's printed sentence says how): EntryGlosses: laid · EntryLabels: laid · EntryChecks: laid · EntryForms: laid · EntryAdds: laid · EntrySame: laid · EntryKeeps: laid · EntryBack: laid · EntryLimits: laid.
  DERIVED. THE GIVEN ROWS OF THIS SEAT. 9 by the template 'for every input the law returns true; each argument reads behind the call as it read before'; 0 by the template 'total and deterministic' (their statements: YtiaamlaibfpdgaaDoorTotals.lean).
  GIVEN WITH THE SEED: the statements are not yours to turn. If you find one false, say at which input.
  Laid BY PROGRAM, IN A SANDBOX (cutbox-rows.mjs): the forced cells as the released guide's own fill.sh prints them over the translation 3e1600720c6cf46e… (all of the seat's roots in one cut). By AI agents, Wed Nov 11 2026. No macro, syntax, notation, axiom, sorry.
-/
import Derived.Test.YtiaamlaibfpdgaaDoorChecked
import GoSem.PinnedTables
import GoSem.Claim
import GoSem.ClaimJoined
import GoSem.ClaimMapViews
import Derived.JoinedTies
import Derived.KernelRfl
namespace Go.Proofs.YtiaamlaibfpdgaaDoor
/- THE CELL 'sum', in the pinned program and in every row, IS THE sha256 OF THE DUMP (.gsa) THAT YtiaamlaibfpdgaaDoorProg.lean LOADS. Nothing in Lean hashes anything: it is a label: what it is worth is what the hold of that sum in a sandbox is worth. -/
noncomputable def Tryd.pinned : Pinned := { name := "ytiaamlaibfpdgaadoor", sum := "3e1600720c6cf46eca561157ef8d4189c1a94dfe06697abbfe2471126e943058", checked := Tryd.checked }
namespace Rows
def none {H : Type} : Left H := { results := [], args := [] }

/- WHAT THE LISTED PACKAGE-LEVEL VARIABLES READ AS WHEN THE CALL BEGINS. Each datum BY PROGRAM (the guide's laid-datum.mjs) off the statement by which the dump's own 'gosem.cut.vars' lays the variable. In a bare row this is a premise. The card (YtiaamlaibfpdgaaDoorCards.lean) ties it to the program's text. -/
def laid_unicode_utf8_acceptRanges {H : Type} : DataW H := .agg [.agg [.lit (.int .u8 128), .lit (.int .u8 191)], .agg [.lit (.int .u8 160), .lit (.int .u8 191)], .agg [.lit (.int .u8 128), .lit (.int .u8 159)], .agg [.lit (.int .u8 144), .lit (.int .u8 191)], .agg [.lit (.int .u8 128), .lit (.int .u8 143)], .agg [.lit (.int .u8 0), .lit (.int .u8 0)], .agg [.lit (.int .u8 0), .lit (.int .u8 0)], .agg [.lit (.int .u8 0), .lit (.int .u8 0)], .agg [.lit (.int .u8 0), .lit (.int .u8 0)], .agg [.lit (.int .u8 0), .lit (.int .u8 0)], .agg [.lit (.int .u8 0), .lit (.int .u8 0)], .agg [.lit (.int .u8 0), .lit (.int .u8 0)], .agg [.lit (.int .u8 0), .lit (.int .u8 0)], .agg [.lit (.int .u8 0), .lit (.int .u8 0)], .agg [.lit (.int .u8 0), .lit (.int .u8 0)], .agg [.lit (.int .u8 0), .lit (.int .u8 0)]]
/-- One of Go's own tables, pinned by name: the form's constant. -/
def laid_unicode_utf8_first : DataW Unit := Go.Pinned.utf8First

/-- 'langdoclaw24.EntryGlosses': WHATEVER THE INPUT: true; the input reads as it did. -/
def entryGlossesSpec : ChangeSpec := { name := "entryGlosses", fn := fun _ => fun
  | [d] => { results := [.lit (.bool true)], args := [d] }
  | _ => none }
def entryGlossesRow : OpenClaim := { program := "ytiaamlaibfpdgaadoor", sum := "3e1600720c6cf46eca561157ef8d4189c1a94dfe06697abbfe2471126e943058", func := "langdoc/langdoclaw24.EntryGlosses", spec := "entryGlosses", inPlace := ["internal/bytealg.IndexByteString", "internal/bytealg.IndexString", "slices.overlaps[langdoc/api.Ref]"], unfollowed := true, recurses := true, named := ["unicode/utf8.first", "unicode/utf8.acceptRanges", "internal/bytealg.MaxLen"], apart := false, laid := [("unicode/utf8.acceptRanges", laid_unicode_utf8_acceptRanges), ("unicode/utf8.first", laid_unicode_utf8_first)] }
def EntryGlossesSaid : Prop := entryGlossesRow.holds Tryd.pinned (OpenSpec.ofChange entryGlossesSpec)

/-- ITS FALSE NEIGHBOUR: 'it returns false'. Refute it at one input. -/
def entryGlossesWrong : ChangeSpec := { name := "entryGlosses", fn := fun _ => fun
  | [d] => { results := [.lit (.bool false)], args := [d] }
  | _ => none }
def EntryGlossesWrongFalsely : Prop := entryGlossesRow.holds Tryd.pinned (OpenSpec.ofChange entryGlossesWrong)

/-- 'langdoclaw24.EntryLabels': WHATEVER THE INPUT: true; the input reads as it did. -/
def entryLabelsSpec : ChangeSpec := { name := "entryLabels", fn := fun _ => fun
  | [d] => { results := [.lit (.bool true)], args := [d] }
  | _ => none }
def entryLabelsRow : OpenClaim := { program := "ytiaamlaibfpdgaadoor", sum := "3e1600720c6cf46eca561157ef8d4189c1a94dfe06697abbfe2471126e943058", func := "langdoc/langdoclaw24.EntryLabels", spec := "entryLabels", inPlace := ["internal/bytealg.IndexByteString", "internal/bytealg.IndexString", "slices.overlaps[langdoc/api.Ref]"], unfollowed := true, recurses := true, named := ["unicode/utf8.first", "unicode/utf8.acceptRanges", "internal/bytealg.MaxLen"], apart := false, laid := [("unicode/utf8.acceptRanges", laid_unicode_utf8_acceptRanges), ("unicode/utf8.first", laid_unicode_utf8_first)] }
def EntryLabelsSaid : Prop := entryLabelsRow.holds Tryd.pinned (OpenSpec.ofChange entryLabelsSpec)

/-- ITS FALSE NEIGHBOUR: 'it returns false'. Refute it at one input. -/
def entryLabelsWrong : ChangeSpec := { name := "entryLabels", fn := fun _ => fun
  | [d] => { results := [.lit (.bool false)], args := [d] }
  | _ => none }
def EntryLabelsWrongFalsely : Prop := entryLabelsRow.holds Tryd.pinned (OpenSpec.ofChange entryLabelsWrong)

/-- 'langdoclaw24.EntryChecks': WHATEVER THE INPUT: true; the input reads as it did. -/
def entryChecksSpec : ChangeSpec := { name := "entryChecks", fn := fun _ => fun
  | [d1, d2] => { results := [.lit (.bool true)], args := [d1, d2] }
  | _ => none }
def entryChecksRow : OpenClaim := { program := "ytiaamlaibfpdgaadoor", sum := "3e1600720c6cf46eca561157ef8d4189c1a94dfe06697abbfe2471126e943058", func := "langdoc/langdoclaw24.EntryChecks", spec := "entryChecks", inPlace := ["internal/bytealg.IndexByteString", "internal/bytealg.IndexString", "slices.overlaps[langdoc/api.Ref]"], unfollowed := true, recurses := true, named := ["unicode/utf8.first", "unicode/utf8.acceptRanges", "internal/bytealg.MaxLen"], apart := false, laid := [("unicode/utf8.acceptRanges", laid_unicode_utf8_acceptRanges), ("unicode/utf8.first", laid_unicode_utf8_first)] }
def EntryChecksSaid : Prop := entryChecksRow.holds Tryd.pinned (OpenSpec.ofChange entryChecksSpec)

/-- ITS FALSE NEIGHBOUR: 'it returns false'. Refute it at one input. -/
def entryChecksWrong : ChangeSpec := { name := "entryChecks", fn := fun _ => fun
  | [d1, d2] => { results := [.lit (.bool false)], args := [d1, d2] }
  | _ => none }
def EntryChecksWrongFalsely : Prop := entryChecksRow.holds Tryd.pinned (OpenSpec.ofChange entryChecksWrong)

/-- 'langdoclaw24.EntryForms': WHATEVER THE INPUT: true; the input reads as it did. -/
def entryFormsSpec : ChangeSpec := { name := "entryForms", fn := fun _ => fun
  | [d1, d2] => { results := [.lit (.bool true)], args := [d1, d2] }
  | _ => none }
def entryFormsRow : OpenClaim := { program := "ytiaamlaibfpdgaadoor", sum := "3e1600720c6cf46eca561157ef8d4189c1a94dfe06697abbfe2471126e943058", func := "langdoc/langdoclaw24.EntryForms", spec := "entryForms", inPlace := ["slices.overlaps[langdoc/api.Ref]", "internal/bytealg.IndexByteString", "internal/bytealg.IndexString"], unfollowed := true, recurses := true, named := ["unicode/utf8.first", "unicode/utf8.acceptRanges", "internal/bytealg.MaxLen"], apart := false, laid := [("unicode/utf8.acceptRanges", laid_unicode_utf8_acceptRanges), ("unicode/utf8.first", laid_unicode_utf8_first)] }
def EntryFormsSaid : Prop := entryFormsRow.holds Tryd.pinned (OpenSpec.ofChange entryFormsSpec)

/-- ITS FALSE NEIGHBOUR: 'it returns false'. Refute it at one input. -/
def entryFormsWrong : ChangeSpec := { name := "entryForms", fn := fun _ => fun
  | [d1, d2] => { results := [.lit (.bool false)], args := [d1, d2] }
  | _ => none }
def EntryFormsWrongFalsely : Prop := entryFormsRow.holds Tryd.pinned (OpenSpec.ofChange entryFormsWrong)

/-- 'langdoclaw24.EntryAdds': WHATEVER THE INPUT: true; the input reads as it did. -/
def entryAddsSpec : ChangeSpec := { name := "entryAdds", fn := fun _ => fun
  | [d1, d2, d3] => { results := [.lit (.bool true)], args := [d1, d2, d3] }
  | _ => none }
def entryAddsRow : OpenClaim := { program := "ytiaamlaibfpdgaadoor", sum := "3e1600720c6cf46eca561157ef8d4189c1a94dfe06697abbfe2471126e943058", func := "langdoc/langdoclaw24.EntryAdds", spec := "entryAdds", inPlace := ["slices.overlaps[langdoc/api.Ref]", "internal/bytealg.IndexByteString", "internal/bytealg.IndexString"], unfollowed := true, recurses := true, named := ["unicode/utf8.first", "unicode/utf8.acceptRanges", "internal/bytealg.MaxLen"], apart := false, laid := [("unicode/utf8.acceptRanges", laid_unicode_utf8_acceptRanges), ("unicode/utf8.first", laid_unicode_utf8_first)] }
def EntryAddsSaid : Prop := entryAddsRow.holds Tryd.pinned (OpenSpec.ofChange entryAddsSpec)

/-- ITS FALSE NEIGHBOUR: 'it returns false'. Refute it at one input. -/
def entryAddsWrong : ChangeSpec := { name := "entryAdds", fn := fun _ => fun
  | [d1, d2, d3] => { results := [.lit (.bool false)], args := [d1, d2, d3] }
  | _ => none }
def EntryAddsWrongFalsely : Prop := entryAddsRow.holds Tryd.pinned (OpenSpec.ofChange entryAddsWrong)

/-- 'langdoclaw24.EntrySame': WHATEVER THE INPUT: true; the input reads as it did. -/
def entrySameSpec : ChangeSpec := { name := "entrySame", fn := fun _ => fun
  | [d1, d2] => { results := [.lit (.bool true)], args := [d1, d2] }
  | _ => none }
def entrySameRow : OpenClaim := { program := "ytiaamlaibfpdgaadoor", sum := "3e1600720c6cf46eca561157ef8d4189c1a94dfe06697abbfe2471126e943058", func := "langdoc/langdoclaw24.EntrySame", spec := "entrySame", inPlace := ["slices.overlaps[langdoc/api.Ref]", "internal/bytealg.IndexByteString", "internal/bytealg.IndexString"], unfollowed := true, recurses := true, named := ["unicode/utf8.first", "unicode/utf8.acceptRanges", "internal/bytealg.MaxLen"], apart := false, laid := [("unicode/utf8.acceptRanges", laid_unicode_utf8_acceptRanges), ("unicode/utf8.first", laid_unicode_utf8_first)] }
def EntrySameSaid : Prop := entrySameRow.holds Tryd.pinned (OpenSpec.ofChange entrySameSpec)

/-- ITS FALSE NEIGHBOUR: 'it returns false'. Refute it at one input. -/
def entrySameWrong : ChangeSpec := { name := "entrySame", fn := fun _ => fun
  | [d1, d2] => { results := [.lit (.bool false)], args := [d1, d2] }
  | _ => none }
def EntrySameWrongFalsely : Prop := entrySameRow.holds Tryd.pinned (OpenSpec.ofChange entrySameWrong)

/-- 'langdoclaw24.EntryKeeps': WHATEVER THE INPUT: true; the input reads as it did. -/
def entryKeepsSpec : ChangeSpec := { name := "entryKeeps", fn := fun _ => fun
  | [d1, d2, d3] => { results := [.lit (.bool true)], args := [d1, d2, d3] }
  | _ => none }
def entryKeepsRow : OpenClaim := { program := "ytiaamlaibfpdgaadoor", sum := "3e1600720c6cf46eca561157ef8d4189c1a94dfe06697abbfe2471126e943058", func := "langdoc/langdoclaw24.EntryKeeps", spec := "entryKeeps", inPlace := ["internal/bytealg.IndexByteString", "internal/bytealg.IndexString", "slices.overlaps[langdoc/api.Ref]"], unfollowed := true, recurses := true, named := ["unicode/utf8.first", "unicode/utf8.acceptRanges", "internal/bytealg.MaxLen"], apart := false, laid := [("unicode/utf8.acceptRanges", laid_unicode_utf8_acceptRanges), ("unicode/utf8.first", laid_unicode_utf8_first)] }
def EntryKeepsSaid : Prop := entryKeepsRow.holds Tryd.pinned (OpenSpec.ofChange entryKeepsSpec)

/-- ITS FALSE NEIGHBOUR: 'it returns false'. Refute it at one input. -/
def entryKeepsWrong : ChangeSpec := { name := "entryKeeps", fn := fun _ => fun
  | [d1, d2, d3] => { results := [.lit (.bool false)], args := [d1, d2, d3] }
  | _ => none }
def EntryKeepsWrongFalsely : Prop := entryKeepsRow.holds Tryd.pinned (OpenSpec.ofChange entryKeepsWrong)

/-- 'langdoclaw24.EntryBack': WHATEVER THE INPUT: true; the input reads as it did. -/
def entryBackSpec : ChangeSpec := { name := "entryBack", fn := fun _ => fun
  | [d1, d2, d3] => { results := [.lit (.bool true)], args := [d1, d2, d3] }
  | _ => none }
def entryBackRow : OpenClaim := { program := "ytiaamlaibfpdgaadoor", sum := "3e1600720c6cf46eca561157ef8d4189c1a94dfe06697abbfe2471126e943058", func := "langdoc/langdoclaw24.EntryBack", spec := "entryBack", inPlace := ["internal/bytealg.IndexByteString", "internal/bytealg.IndexString", "slices.overlaps[langdoc/api.Ref]"], unfollowed := true, recurses := true, named := ["unicode/utf8.first", "unicode/utf8.acceptRanges", "internal/bytealg.MaxLen"], apart := false, laid := [("unicode/utf8.acceptRanges", laid_unicode_utf8_acceptRanges), ("unicode/utf8.first", laid_unicode_utf8_first)] }
def EntryBackSaid : Prop := entryBackRow.holds Tryd.pinned (OpenSpec.ofChange entryBackSpec)

/-- ITS FALSE NEIGHBOUR: 'it returns false'. Refute it at one input. -/
def entryBackWrong : ChangeSpec := { name := "entryBack", fn := fun _ => fun
  | [d1, d2, d3] => { results := [.lit (.bool false)], args := [d1, d2, d3] }
  | _ => none }
def EntryBackWrongFalsely : Prop := entryBackRow.holds Tryd.pinned (OpenSpec.ofChange entryBackWrong)

/-- 'langdoclaw24.EntryLimits': WHATEVER THE INPUT: true; the input reads as it did. -/
def entryLimitsSpec : ChangeSpec := { name := "entryLimits", fn := fun _ => fun
  | [d1, d2] => { results := [.lit (.bool true)], args := [d1, d2] }
  | _ => none }
def entryLimitsRow : OpenClaim := { program := "ytiaamlaibfpdgaadoor", sum := "3e1600720c6cf46eca561157ef8d4189c1a94dfe06697abbfe2471126e943058", func := "langdoc/langdoclaw24.EntryLimits", spec := "entryLimits", inPlace := ["slices.overlaps[langdoc/api.Ref]", "internal/bytealg.IndexByteString", "internal/bytealg.IndexString"], unfollowed := true, recurses := true, named := ["unicode/utf8.first", "unicode/utf8.acceptRanges", "internal/bytealg.MaxLen"], apart := false, laid := [("unicode/utf8.acceptRanges", laid_unicode_utf8_acceptRanges), ("unicode/utf8.first", laid_unicode_utf8_first)] }
def EntryLimitsSaid : Prop := entryLimitsRow.holds Tryd.pinned (OpenSpec.ofChange entryLimitsSpec)

/-- ITS FALSE NEIGHBOUR: 'it returns false'. Refute it at one input. -/
def entryLimitsWrong : ChangeSpec := { name := "entryLimits", fn := fun _ => fun
  | [d1, d2] => { results := [.lit (.bool false)], args := [d1, d2] }
  | _ => none }
def EntryLimitsWrongFalsely : Prop := entryLimitsRow.holds Tryd.pinned (OpenSpec.ofChange entryLimitsWrong)

/- THE SECOND FORM. 'bulk': how many values and letters a reading holds, each counted each time it is reached (what is shared counts as often as it is met; a slice's spare places count too). A statement '..UptoSaid' is the law's where the arguments, and the package variables that the reading takes, are together of bulk at most 1048576: NARROWER than '..Said'. Prove '..Said' where nothing that the law and all that it calls make is longer than what came in: it says more and counts as full. Else prove '..UptoSaid'. A law counts once. -/
mutual
def uptoBulk {H : Type} : DataW H → Nat
  | .lit (.string bytes) => bytes.length + 1
  | .lit _ => 1
  | .nil => 1
  | .ptr d => uptoBulk d + 1
  | .slice elems spare => uptoBulkAll elems + uptoBulkAll spare + 1
  | .agg parts => uptoBulkAll parts + 1
  | .iface _ d => uptoBulk d + 1
  | .map entries => uptoBulkEntries entries + 1
  | .held _ => 1
def uptoBulkAll {H : Type} : List (DataW H) → Nat
  | [] => 0
  | d :: r => uptoBulk d + uptoBulkAll r
def uptoBulkEntries {H : Type} : List (Lit × DataW H) → Nat
  | [] => 0
  | x :: r => uptoBulkEntry x + uptoBulkEntries r
def uptoBulkEntry {H : Type} : Lit × DataW H → Nat
  | (.string bytes, d) => bytes.length + uptoBulk d + 1
  | (_, d) => uptoBulk d + 1
 end
def uptoSmall : (H : Type) → List (DataW H) → Bool := fun _ ds => decide (uptoBulkAll ds ≤ 1048576)
def OpenSpec.upto (s : _root_.Go.ChangeSpec) : _root_.Go.OpenSpec := { _root_.Go.OpenSpec.ofChange s with cond := some uptoSmall }

/-- 'langdoclaw24.EntryGlosses', WHERE WHAT IT READS IS OF BULK AT MOST 1048576: true; the input reads as it did. -/
def entryGlossesUptoRow : OpenClaim := { program := "ytiaamlaibfpdgaadoor", sum := "3e1600720c6cf46eca561157ef8d4189c1a94dfe06697abbfe2471126e943058", func := "langdoc/langdoclaw24.EntryGlosses", spec := "entryGlosses", inPlace := ["internal/bytealg.IndexByteString", "internal/bytealg.IndexString", "slices.overlaps[langdoc/api.Ref]"], unfollowed := true, recurses := true, named := ["unicode/utf8.first", "unicode/utf8.acceptRanges", "internal/bytealg.MaxLen"], apart := false, laid := [("unicode/utf8.acceptRanges", laid_unicode_utf8_acceptRanges), ("unicode/utf8.first", laid_unicode_utf8_first)], narrowed := true }
def EntryGlossesUptoSaid : Prop := entryGlossesUptoRow.holds Tryd.pinned (OpenSpec.upto entryGlossesSpec)

/-- 'langdoclaw24.EntryLabels', WHERE WHAT IT READS IS OF BULK AT MOST 1048576: true; the input reads as it did. -/
def entryLabelsUptoRow : OpenClaim := { program := "ytiaamlaibfpdgaadoor", sum := "3e1600720c6cf46eca561157ef8d4189c1a94dfe06697abbfe2471126e943058", func := "langdoc/langdoclaw24.EntryLabels", spec := "entryLabels", inPlace := ["internal/bytealg.IndexByteString", "internal/bytealg.IndexString", "slices.overlaps[langdoc/api.Ref]"], unfollowed := true, recurses := true, named := ["unicode/utf8.first", "unicode/utf8.acceptRanges", "internal/bytealg.MaxLen"], apart := false, laid := [("unicode/utf8.acceptRanges", laid_unicode_utf8_acceptRanges), ("unicode/utf8.first", laid_unicode_utf8_first)], narrowed := true }
def EntryLabelsUptoSaid : Prop := entryLabelsUptoRow.holds Tryd.pinned (OpenSpec.upto entryLabelsSpec)

/-- 'langdoclaw24.EntryChecks', WHERE WHAT IT READS IS OF BULK AT MOST 1048576: true; the input reads as it did. -/
def entryChecksUptoRow : OpenClaim := { program := "ytiaamlaibfpdgaadoor", sum := "3e1600720c6cf46eca561157ef8d4189c1a94dfe06697abbfe2471126e943058", func := "langdoc/langdoclaw24.EntryChecks", spec := "entryChecks", inPlace := ["internal/bytealg.IndexByteString", "internal/bytealg.IndexString", "slices.overlaps[langdoc/api.Ref]"], unfollowed := true, recurses := true, named := ["unicode/utf8.first", "unicode/utf8.acceptRanges", "internal/bytealg.MaxLen"], apart := false, laid := [("unicode/utf8.acceptRanges", laid_unicode_utf8_acceptRanges), ("unicode/utf8.first", laid_unicode_utf8_first)], narrowed := true }
def EntryChecksUptoSaid : Prop := entryChecksUptoRow.holds Tryd.pinned (OpenSpec.upto entryChecksSpec)

/-- 'langdoclaw24.EntryForms', WHERE WHAT IT READS IS OF BULK AT MOST 1048576: true; the input reads as it did. -/
def entryFormsUptoRow : OpenClaim := { program := "ytiaamlaibfpdgaadoor", sum := "3e1600720c6cf46eca561157ef8d4189c1a94dfe06697abbfe2471126e943058", func := "langdoc/langdoclaw24.EntryForms", spec := "entryForms", inPlace := ["slices.overlaps[langdoc/api.Ref]", "internal/bytealg.IndexByteString", "internal/bytealg.IndexString"], unfollowed := true, recurses := true, named := ["unicode/utf8.first", "unicode/utf8.acceptRanges", "internal/bytealg.MaxLen"], apart := false, laid := [("unicode/utf8.acceptRanges", laid_unicode_utf8_acceptRanges), ("unicode/utf8.first", laid_unicode_utf8_first)], narrowed := true }
def EntryFormsUptoSaid : Prop := entryFormsUptoRow.holds Tryd.pinned (OpenSpec.upto entryFormsSpec)

/-- 'langdoclaw24.EntryAdds', WHERE WHAT IT READS IS OF BULK AT MOST 1048576: true; the input reads as it did. -/
def entryAddsUptoRow : OpenClaim := { program := "ytiaamlaibfpdgaadoor", sum := "3e1600720c6cf46eca561157ef8d4189c1a94dfe06697abbfe2471126e943058", func := "langdoc/langdoclaw24.EntryAdds", spec := "entryAdds", inPlace := ["slices.overlaps[langdoc/api.Ref]", "internal/bytealg.IndexByteString", "internal/bytealg.IndexString"], unfollowed := true, recurses := true, named := ["unicode/utf8.first", "unicode/utf8.acceptRanges", "internal/bytealg.MaxLen"], apart := false, laid := [("unicode/utf8.acceptRanges", laid_unicode_utf8_acceptRanges), ("unicode/utf8.first", laid_unicode_utf8_first)], narrowed := true }
def EntryAddsUptoSaid : Prop := entryAddsUptoRow.holds Tryd.pinned (OpenSpec.upto entryAddsSpec)

/-- 'langdoclaw24.EntrySame', WHERE WHAT IT READS IS OF BULK AT MOST 1048576: true; the input reads as it did. -/
def entrySameUptoRow : OpenClaim := { program := "ytiaamlaibfpdgaadoor", sum := "3e1600720c6cf46eca561157ef8d4189c1a94dfe06697abbfe2471126e943058", func := "langdoc/langdoclaw24.EntrySame", spec := "entrySame", inPlace := ["slices.overlaps[langdoc/api.Ref]", "internal/bytealg.IndexByteString", "internal/bytealg.IndexString"], unfollowed := true, recurses := true, named := ["unicode/utf8.first", "unicode/utf8.acceptRanges", "internal/bytealg.MaxLen"], apart := false, laid := [("unicode/utf8.acceptRanges", laid_unicode_utf8_acceptRanges), ("unicode/utf8.first", laid_unicode_utf8_first)], narrowed := true }
def EntrySameUptoSaid : Prop := entrySameUptoRow.holds Tryd.pinned (OpenSpec.upto entrySameSpec)

/-- 'langdoclaw24.EntryKeeps', WHERE WHAT IT READS IS OF BULK AT MOST 1048576: true; the input reads as it did. -/
def entryKeepsUptoRow : OpenClaim := { program := "ytiaamlaibfpdgaadoor", sum := "3e1600720c6cf46eca561157ef8d4189c1a94dfe06697abbfe2471126e943058", func := "langdoc/langdoclaw24.EntryKeeps", spec := "entryKeeps", inPlace := ["internal/bytealg.IndexByteString", "internal/bytealg.IndexString", "slices.overlaps[langdoc/api.Ref]"], unfollowed := true, recurses := true, named := ["unicode/utf8.first", "unicode/utf8.acceptRanges", "internal/bytealg.MaxLen"], apart := false, laid := [("unicode/utf8.acceptRanges", laid_unicode_utf8_acceptRanges), ("unicode/utf8.first", laid_unicode_utf8_first)], narrowed := true }
def EntryKeepsUptoSaid : Prop := entryKeepsUptoRow.holds Tryd.pinned (OpenSpec.upto entryKeepsSpec)

/-- 'langdoclaw24.EntryBack', WHERE WHAT IT READS IS OF BULK AT MOST 1048576: true; the input reads as it did. -/
def entryBackUptoRow : OpenClaim := { program := "ytiaamlaibfpdgaadoor", sum := "3e1600720c6cf46eca561157ef8d4189c1a94dfe06697abbfe2471126e943058", func := "langdoc/langdoclaw24.EntryBack", spec := "entryBack", inPlace := ["internal/bytealg.IndexByteString", "internal/bytealg.IndexString", "slices.overlaps[langdoc/api.Ref]"], unfollowed := true, recurses := true, named := ["unicode/utf8.first", "unicode/utf8.acceptRanges", "internal/bytealg.MaxLen"], apart := false, laid := [("unicode/utf8.acceptRanges", laid_unicode_utf8_acceptRanges), ("unicode/utf8.first", laid_unicode_utf8_first)], narrowed := true }
def EntryBackUptoSaid : Prop := entryBackUptoRow.holds Tryd.pinned (OpenSpec.upto entryBackSpec)

/-- 'langdoclaw24.EntryLimits', WHERE WHAT IT READS IS OF BULK AT MOST 1048576: true; the input reads as it did. -/
def entryLimitsUptoRow : OpenClaim := { program := "ytiaamlaibfpdgaadoor", sum := "3e1600720c6cf46eca561157ef8d4189c1a94dfe06697abbfe2471126e943058", func := "langdoc/langdoclaw24.EntryLimits", spec := "entryLimits", inPlace := ["slices.overlaps[langdoc/api.Ref]", "internal/bytealg.IndexByteString", "internal/bytealg.IndexString"], unfollowed := true, recurses := true, named := ["unicode/utf8.first", "unicode/utf8.acceptRanges", "internal/bytealg.MaxLen"], apart := false, laid := [("unicode/utf8.acceptRanges", laid_unicode_utf8_acceptRanges), ("unicode/utf8.first", laid_unicode_utf8_first)], narrowed := true }
def EntryLimitsUptoSaid : Prop := entryLimitsUptoRow.holds Tryd.pinned (OpenSpec.upto entryLimitsSpec)

end Rows
end Go.Proofs.YtiaamlaibfpdgaaDoor
