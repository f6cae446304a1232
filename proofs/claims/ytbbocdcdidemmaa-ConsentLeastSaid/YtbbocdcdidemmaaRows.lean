/-
  No cell of these rows narrows 'for every input' (looked for: loops, veiled, ifaces, maps, wideKeys, modest, calm, conditions, laid).
  DERIVED. THE GIVEN ROWS OF THIS SEAT. 7 by the template 'for every input the law returns true; each argument reads behind the call as it read before'; 0 by the template 'total and deterministic' (their statements: YtbbocdcdidemmaaTotals.lean).
  GIVEN WITH THE SEED: the statements are not yours to turn. If you find one false, say at which input.
  Laid BY PROGRAM, IN A SANDBOX (cutbox-rows.mjs): the forced cells as the released guide's own fill.sh prints them over the translation 8796b8e2702c101c… (all of the seat's roots in one cut). By AI agents, Wed Nov 11 2026. No macro, syntax, notation, axiom, sorry.
-/
import Derived.Test.YtbbocdcdidemmaaChecked
import GoSem.Claim
import GoSem.ClaimJoined
import GoSem.ClaimMapViews
import Derived.JoinedTies
import Derived.KernelRfl
namespace Go.Proofs.Ytbbocdcdidemmaa
/- THE CELL 'sum', in the pinned program and in every row, IS THE sha256 OF THE DUMP (.gsa) THAT YtbbocdcdidemmaaProg.lean LOADS. Nothing in Lean hashes anything: it is a label: what it is worth is what the hold of that sum in a sandbox is worth. -/
noncomputable def Try.pinned : Pinned := { name := "ytbbocdcdidemmaa", sum := "8796b8e2702c101cf66f558a1e49fdd389fe6d8a84e5cb506c649b3bfab79631", checked := Try.checked }
namespace Rows
def none {H : Type} : Left H := { results := [], args := [] }

/-- 'langdoclaw43.ConsentCheck': WHATEVER THE INPUT: true; the input reads as it did. -/
def consentCheckSpec : ChangeSpec := { name := "consentCheck", fn := fun _ => fun
  | [d1, d2] => { results := [.lit (.bool true)], args := [d1, d2] }
  | _ => none }
def consentCheckRow : OpenClaim := { program := "ytbbocdcdidemmaa", sum := "8796b8e2702c101cf66f558a1e49fdd389fe6d8a84e5cb506c649b3bfab79631", func := "langdoc/langdoclaw43.ConsentCheck", spec := "consentCheck", inPlace := ["slices.overlaps[langdoc/api.Consent]"], unfollowed := true, recurses := true, apart := false }
def ConsentCheckSaid : Prop := consentCheckRow.holds Try.pinned (OpenSpec.ofChange consentCheckSpec)

/-- ITS FALSE NEIGHBOUR: 'it returns false'. Refute it at one input. -/
def consentCheckWrong : ChangeSpec := { name := "consentCheck", fn := fun _ => fun
  | [d1, d2] => { results := [.lit (.bool false)], args := [d1, d2] }
  | _ => none }
def ConsentCheckWrongFalsely : Prop := consentCheckRow.holds Try.pinned (OpenSpec.ofChange consentCheckWrong)

/-- 'langdoclaw43.ConsentAt': WHATEVER THE INPUT: true; the input reads as it did. -/
def consentAtSpec : ChangeSpec := { name := "consentAt", fn := fun _ => fun
  | [d] => { results := [.lit (.bool true)], args := [d] }
  | _ => none }
def consentAtRow : OpenClaim := { program := "ytbbocdcdidemmaa", sum := "8796b8e2702c101cf66f558a1e49fdd389fe6d8a84e5cb506c649b3bfab79631", func := "langdoc/langdoclaw43.ConsentAt", spec := "consentAt", inPlace := ["slices.overlaps[langdoc/api.Consent]"], unfollowed := true, recurses := true, apart := false }
def ConsentAtSaid : Prop := consentAtRow.holds Try.pinned (OpenSpec.ofChange consentAtSpec)

/-- ITS FALSE NEIGHBOUR: 'it returns false'. Refute it at one input. -/
def consentAtWrong : ChangeSpec := { name := "consentAt", fn := fun _ => fun
  | [d] => { results := [.lit (.bool false)], args := [d] }
  | _ => none }
def ConsentAtWrongFalsely : Prop := consentAtRow.holds Try.pinned (OpenSpec.ofChange consentAtWrong)

/-- 'langdoclaw43.ConsentLeast': WHATEVER THE INPUT: true; the input reads as it did. -/
def consentLeastSpec : ChangeSpec := { name := "consentLeast", fn := fun _ => fun
  | [d1, d2] => { results := [.lit (.bool true)], args := [d1, d2] }
  | _ => none }
def consentLeastRow : OpenClaim := { program := "ytbbocdcdidemmaa", sum := "8796b8e2702c101cf66f558a1e49fdd389fe6d8a84e5cb506c649b3bfab79631", func := "langdoc/langdoclaw43.ConsentLeast", spec := "consentLeast", inPlace := ["slices.overlaps[langdoc/api.Consent]"], unfollowed := true, recurses := true, apart := false }
def ConsentLeastSaid : Prop := consentLeastRow.holds Try.pinned (OpenSpec.ofChange consentLeastSpec)

/-- ITS FALSE NEIGHBOUR: 'it returns false'. Refute it at one input. -/
def consentLeastWrong : ChangeSpec := { name := "consentLeast", fn := fun _ => fun
  | [d1, d2] => { results := [.lit (.bool false)], args := [d1, d2] }
  | _ => none }
def ConsentLeastWrongFalsely : Prop := consentLeastRow.holds Try.pinned (OpenSpec.ofChange consentLeastWrong)

/-- 'langdoclaw43.ConsentGive': WHATEVER THE INPUT: true; the input reads as it did. -/
def consentGiveSpec : ChangeSpec := { name := "consentGive", fn := fun _ => fun
  | [d1, d2, d3] => { results := [.lit (.bool true)], args := [d1, d2, d3] }
  | _ => none }
def consentGiveRow : OpenClaim := { program := "ytbbocdcdidemmaa", sum := "8796b8e2702c101cf66f558a1e49fdd389fe6d8a84e5cb506c649b3bfab79631", func := "langdoc/langdoclaw43.ConsentGive", spec := "consentGive", inPlace := ["slices.overlaps[langdoc/api.Consent]"], unfollowed := true, recurses := true, apart := false }
def ConsentGiveSaid : Prop := consentGiveRow.holds Try.pinned (OpenSpec.ofChange consentGiveSpec)

/-- ITS FALSE NEIGHBOUR: 'it returns false'. Refute it at one input. -/
def consentGiveWrong : ChangeSpec := { name := "consentGive", fn := fun _ => fun
  | [d1, d2, d3] => { results := [.lit (.bool false)], args := [d1, d2, d3] }
  | _ => none }
def ConsentGiveWrongFalsely : Prop := consentGiveRow.holds Try.pinned (OpenSpec.ofChange consentGiveWrong)

/-- 'langdoclaw43.ConsentLater': WHATEVER THE INPUT: true; the input reads as it did. -/
def consentLaterSpec : ChangeSpec := { name := "consentLater", fn := fun _ => fun
  | [d1, d2] => { results := [.lit (.bool true)], args := [d1, d2] }
  | _ => none }
def consentLaterRow : OpenClaim := { program := "ytbbocdcdidemmaa", sum := "8796b8e2702c101cf66f558a1e49fdd389fe6d8a84e5cb506c649b3bfab79631", func := "langdoc/langdoclaw43.ConsentLater", spec := "consentLater", inPlace := ["slices.overlaps[langdoc/api.Consent]"], unfollowed := true, recurses := true, apart := false }
def ConsentLaterSaid : Prop := consentLaterRow.holds Try.pinned (OpenSpec.ofChange consentLaterSpec)

/-- ITS FALSE NEIGHBOUR: 'it returns false'. Refute it at one input. -/
def consentLaterWrong : ChangeSpec := { name := "consentLater", fn := fun _ => fun
  | [d1, d2] => { results := [.lit (.bool false)], args := [d1, d2] }
  | _ => none }
def ConsentLaterWrongFalsely : Prop := consentLaterRow.holds Try.pinned (OpenSpec.ofChange consentLaterWrong)

/-- 'langdoclaw43.ConsentWithdrawn': WHATEVER THE INPUT: true; the input reads as it did. -/
def consentWithdrawnSpec : ChangeSpec := { name := "consentWithdrawn", fn := fun _ => fun
  | [d1, d2] => { results := [.lit (.bool true)], args := [d1, d2] }
  | _ => none }
def consentWithdrawnRow : OpenClaim := { program := "ytbbocdcdidemmaa", sum := "8796b8e2702c101cf66f558a1e49fdd389fe6d8a84e5cb506c649b3bfab79631", func := "langdoc/langdoclaw43.ConsentWithdrawn", spec := "consentWithdrawn", inPlace := ["slices.overlaps[langdoc/api.Consent]"], unfollowed := true, recurses := true, apart := false }
def ConsentWithdrawnSaid : Prop := consentWithdrawnRow.holds Try.pinned (OpenSpec.ofChange consentWithdrawnSpec)

/-- ITS FALSE NEIGHBOUR: 'it returns false'. Refute it at one input. -/
def consentWithdrawnWrong : ChangeSpec := { name := "consentWithdrawn", fn := fun _ => fun
  | [d1, d2] => { results := [.lit (.bool false)], args := [d1, d2] }
  | _ => none }
def ConsentWithdrawnWrongFalsely : Prop := consentWithdrawnRow.holds Try.pinned (OpenSpec.ofChange consentWithdrawnWrong)

/-- 'langdoclaw43.ConsentDays': WHATEVER THE INPUT: true; the input reads as it did. -/
def consentDaysSpec : ChangeSpec := { name := "consentDays", fn := fun _ => fun
  | [d1, d2] => { results := [.lit (.bool true)], args := [d1, d2] }
  | _ => none }
def consentDaysRow : OpenClaim := { program := "ytbbocdcdidemmaa", sum := "8796b8e2702c101cf66f558a1e49fdd389fe6d8a84e5cb506c649b3bfab79631", func := "langdoc/langdoclaw43.ConsentDays", spec := "consentDays", inPlace := ["slices.overlaps[langdoc/api.Consent]"], unfollowed := true, recurses := true, apart := false }
def ConsentDaysSaid : Prop := consentDaysRow.holds Try.pinned (OpenSpec.ofChange consentDaysSpec)

/-- ITS FALSE NEIGHBOUR: 'it returns false'. Refute it at one input. -/
def consentDaysWrong : ChangeSpec := { name := "consentDays", fn := fun _ => fun
  | [d1, d2] => { results := [.lit (.bool false)], args := [d1, d2] }
  | _ => none }
def ConsentDaysWrongFalsely : Prop := consentDaysRow.holds Try.pinned (OpenSpec.ofChange consentDaysWrong)

/- THE SECOND FORM. 'bulk': how many values and letters a reading holds, each counted each time it is reached (what is shared counts as often as it is met; a slice's spare places count too). A statement '..UptoSaid' is the law's where the arguments, and the package variables that the reading takes, are together of bulk at most 1048576: NARROWER than '..Said'. Prove '..Said' where nothing that the law and all that it calls make is longer than what came in: it says more and counts as full. Else prove '..UptoSaid'. A law counts once. -/
mutual
def uptoBulk {H : Type} : DataW H → Nat
  | .lit (.string bytes) => bytes.length + 1
  | .lit _ => 1
  | .nil => 1
  | .ptr d => uptoBulk d + 1
  | .slice elems spare => uptoBulkAll elems + uptoBulkAll spare + 1
  | .agg parts => uptoBulkAll parts + 1
  | .iface _ d => uptoBulk d + 1
  | .map entries => uptoBulkEntries entries + 1
  | .held _ => 1
def uptoBulkAll {H : Type} : List (DataW H) → Nat
  | [] => 0
  | d :: r => uptoBulk d + uptoBulkAll r
def uptoBulkEntries {H : Type} : List (Lit × DataW H) → Nat
  | [] => 0
  | x :: r => uptoBulkEntry x + uptoBulkEntries r
def uptoBulkEntry {H : Type} : Lit × DataW H → Nat
  | (.string bytes, d) => bytes.length + uptoBulk d + 1
  | (_, d) => uptoBulk d + 1
 end
def uptoSmall : (H : Type) → List (DataW H) → Bool := fun _ ds => decide (uptoBulkAll ds ≤ 1048576)
def OpenSpec.upto (s : _root_.Go.ChangeSpec) : _root_.Go.OpenSpec := { _root_.Go.OpenSpec.ofChange s with cond := some uptoSmall }

/-- 'langdoclaw43.ConsentCheck', WHERE WHAT IT READS IS OF BULK AT MOST 1048576: true; the input reads as it did. -/
def consentCheckUptoRow : OpenClaim := { program := "ytbbocdcdidemmaa", sum := "8796b8e2702c101cf66f558a1e49fdd389fe6d8a84e5cb506c649b3bfab79631", func := "langdoc/langdoclaw43.ConsentCheck", spec := "consentCheck", inPlace := ["slices.overlaps[langdoc/api.Consent]"], unfollowed := true, recurses := true, apart := false, narrowed := true }
def ConsentCheckUptoSaid : Prop := consentCheckUptoRow.holds Try.pinned (OpenSpec.upto consentCheckSpec)

/-- 'langdoclaw43.ConsentAt', WHERE WHAT IT READS IS OF BULK AT MOST 1048576: true; the input reads as it did. -/
def consentAtUptoRow : OpenClaim := { program := "ytbbocdcdidemmaa", sum := "8796b8e2702c101cf66f558a1e49fdd389fe6d8a84e5cb506c649b3bfab79631", func := "langdoc/langdoclaw43.ConsentAt", spec := "consentAt", inPlace := ["slices.overlaps[langdoc/api.Consent]"], unfollowed := true, recurses := true, apart := false, narrowed := true }
def ConsentAtUptoSaid : Prop := consentAtUptoRow.holds Try.pinned (OpenSpec.upto consentAtSpec)

/-- 'langdoclaw43.ConsentLeast', WHERE WHAT IT READS IS OF BULK AT MOST 1048576: true; the input reads as it did. -/
def consentLeastUptoRow : OpenClaim := { program := "ytbbocdcdidemmaa", sum := "8796b8e2702c101cf66f558a1e49fdd389fe6d8a84e5cb506c649b3bfab79631", func := "langdoc/langdoclaw43.ConsentLeast", spec := "consentLeast", inPlace := ["slices.overlaps[langdoc/api.Consent]"], unfollowed := true, recurses := true, apart := false, narrowed := true }
def ConsentLeastUptoSaid : Prop := consentLeastUptoRow.holds Try.pinned (OpenSpec.upto consentLeastSpec)

/-- 'langdoclaw43.ConsentGive', WHERE WHAT IT READS IS OF BULK AT MOST 1048576: true; the input reads as it did. -/
def consentGiveUptoRow : OpenClaim := { program := "ytbbocdcdidemmaa", sum := "8796b8e2702c101cf66f558a1e49fdd389fe6d8a84e5cb506c649b3bfab79631", func := "langdoc/langdoclaw43.ConsentGive", spec := "consentGive", inPlace := ["slices.overlaps[langdoc/api.Consent]"], unfollowed := true, recurses := true, apart := false, narrowed := true }
def ConsentGiveUptoSaid : Prop := consentGiveUptoRow.holds Try.pinned (OpenSpec.upto consentGiveSpec)

/-- 'langdoclaw43.ConsentLater', WHERE WHAT IT READS IS OF BULK AT MOST 1048576: true; the input reads as it did. -/
def consentLaterUptoRow : OpenClaim := { program := "ytbbocdcdidemmaa", sum := "8796b8e2702c101cf66f558a1e49fdd389fe6d8a84e5cb506c649b3bfab79631", func := "langdoc/langdoclaw43.ConsentLater", spec := "consentLater", inPlace := ["slices.overlaps[langdoc/api.Consent]"], unfollowed := true, recurses := true, apart := false, narrowed := true }
def ConsentLaterUptoSaid : Prop := consentLaterUptoRow.holds Try.pinned (OpenSpec.upto consentLaterSpec)

/-- 'langdoclaw43.ConsentWithdrawn', WHERE WHAT IT READS IS OF BULK AT MOST 1048576: true; the input reads as it did. -/
def consentWithdrawnUptoRow : OpenClaim := { program := "ytbbocdcdidemmaa", sum := "8796b8e2702c101cf66f558a1e49fdd389fe6d8a84e5cb506c649b3bfab79631", func := "langdoc/langdoclaw43.ConsentWithdrawn", spec := "consentWithdrawn", inPlace := ["slices.overlaps[langdoc/api.Consent]"], unfollowed := true, recurses := true, apart := false, narrowed := true }
def ConsentWithdrawnUptoSaid : Prop := consentWithdrawnUptoRow.holds Try.pinned (OpenSpec.upto consentWithdrawnSpec)

/-- 'langdoclaw43.ConsentDays', WHERE WHAT IT READS IS OF BULK AT MOST 1048576: true; the input reads as it did. -/
def consentDaysUptoRow : OpenClaim := { program := "ytbbocdcdidemmaa", sum := "8796b8e2702c101cf66f558a1e49fdd389fe6d8a84e5cb506c649b3bfab79631", func := "langdoc/langdoclaw43.ConsentDays", spec := "consentDays", inPlace := ["slices.overlaps[langdoc/api.Consent]"], unfollowed := true, recurses := true, apart := false, narrowed := true }
def ConsentDaysUptoSaid : Prop := consentDaysUptoRow.holds Try.pinned (OpenSpec.upto consentDaysSpec)

end Rows
end Go.Proofs.Ytbbocdcdidemmaa
