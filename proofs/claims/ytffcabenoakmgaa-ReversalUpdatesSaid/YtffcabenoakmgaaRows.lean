/-
  No cell of these rows narrows 'for every input' (looked for: loops, veiled, ifaces, maps, wideKeys, modest, calm, conditions, laid).
  DERIVED. THE GIVEN ROWS OF THIS SEAT. 8 by the template 'for every input the law returns true; each argument reads behind the call as it read before'; 0 by the template 'total and deterministic' (their statements: YtffcabenoakmgaaTotals.lean).
  GIVEN WITH THE SEED: the statements are not yours to turn. If you find one false, say at which input.
  Laid BY PROGRAM, IN A SANDBOX (cutbox-rows.mjs): the forced cells as the released guide's own fill.sh prints them over the translation 022e18e23a2f49ea… (all of the seat's roots in one cut). By AI agents, Wed Nov 11 2026. No macro, syntax, notation, axiom, sorry.
-/
import Derived.Test.YtffcabenoakmgaaChecked
import GoSem.Claim
import GoSem.ClaimJoined
import GoSem.ClaimMapViews
import Derived.JoinedTies
import Derived.KernelRfl
namespace Go.Proofs.Ytffcabenoakmgaa
/- THE CELL 'sum', in the pinned program and in every row, IS THE sha256 OF THE DUMP (.gsa) THAT YtffcabenoakmgaaProg.lean LOADS. Nothing in Lean hashes anything: it is a label: what it is worth is what the hold of that sum in a sandbox is worth. -/
noncomputable def Try.pinned : Pinned := { name := "ytffcabenoakmgaa", sum := "022e18e23a2f49ea18d1513c2d36ec2872f9e5453bfd794c81157c15109cc6e5", checked := Try.checked }
namespace Rows
def none {H : Type} : Left H := { results := [], args := [] }

/-- 'langdoclaw28.ReversalBuilds': WHATEVER THE INPUT: true; the input reads as it did. -/
def reversalBuildsSpec : ChangeSpec := { name := "reversalBuilds", fn := fun _ => fun
  | [d] => { results := [.lit (.bool true)], args := [d] }
  | _ => none }
def reversalBuildsRow : OpenClaim := { program := "ytffcabenoakmgaa", sum := "022e18e23a2f49ea18d1513c2d36ec2872f9e5453bfd794c81157c15109cc6e5", func := "langdoc/langdoclaw28.ReversalBuilds", spec := "reversalBuilds", inPlace := ["slices.overlaps[langdoc/api.Row]", "slices.overlaps[langdoc/api.Part]"], unfollowed := true, recurses := true, apart := false }
def ReversalBuildsSaid : Prop := reversalBuildsRow.holds Try.pinned (OpenSpec.ofChange reversalBuildsSpec)

/-- ITS FALSE NEIGHBOUR: 'it returns false'. Refute it at one input. -/
def reversalBuildsWrong : ChangeSpec := { name := "reversalBuilds", fn := fun _ => fun
  | [d] => { results := [.lit (.bool false)], args := [d] }
  | _ => none }
def ReversalBuildsWrongFalsely : Prop := reversalBuildsRow.holds Try.pinned (OpenSpec.ofChange reversalBuildsWrong)

/-- 'langdoclaw28.ReversalChecks': WHATEVER THE INPUT: true; the input reads as it did. -/
def reversalChecksSpec : ChangeSpec := { name := "reversalChecks", fn := fun _ => fun
  | [d] => { results := [.lit (.bool true)], args := [d] }
  | _ => none }
def reversalChecksRow : OpenClaim := { program := "ytffcabenoakmgaa", sum := "022e18e23a2f49ea18d1513c2d36ec2872f9e5453bfd794c81157c15109cc6e5", func := "langdoc/langdoclaw28.ReversalChecks", spec := "reversalChecks", inPlace := ["slices.overlaps[langdoc/api.Row]", "slices.overlaps[langdoc/api.Part]"], unfollowed := true, recurses := true, apart := false }
def ReversalChecksSaid : Prop := reversalChecksRow.holds Try.pinned (OpenSpec.ofChange reversalChecksSpec)

/-- ITS FALSE NEIGHBOUR: 'it returns false'. Refute it at one input. -/
def reversalChecksWrong : ChangeSpec := { name := "reversalChecks", fn := fun _ => fun
  | [d] => { results := [.lit (.bool false)], args := [d] }
  | _ => none }
def ReversalChecksWrongFalsely : Prop := reversalChecksRow.holds Try.pinned (OpenSpec.ofChange reversalChecksWrong)

/-- 'langdoclaw28.ReversalFinds': WHATEVER THE INPUT: true; the input reads as it did. -/
def reversalFindsSpec : ChangeSpec := { name := "reversalFinds", fn := fun _ => fun
  | [d1, d2] => { results := [.lit (.bool true)], args := [d1, d2] }
  | _ => none }
def reversalFindsRow : OpenClaim := { program := "ytffcabenoakmgaa", sum := "022e18e23a2f49ea18d1513c2d36ec2872f9e5453bfd794c81157c15109cc6e5", func := "langdoc/langdoclaw28.ReversalFinds", spec := "reversalFinds", inPlace := ["slices.overlaps[langdoc/api.Row]", "slices.overlaps[langdoc/api.Part]"], unfollowed := true, recurses := true, apart := false }
def ReversalFindsSaid : Prop := reversalFindsRow.holds Try.pinned (OpenSpec.ofChange reversalFindsSpec)

/-- ITS FALSE NEIGHBOUR: 'it returns false'. Refute it at one input. -/
def reversalFindsWrong : ChangeSpec := { name := "reversalFinds", fn := fun _ => fun
  | [d1, d2] => { results := [.lit (.bool false)], args := [d1, d2] }
  | _ => none }
def ReversalFindsWrongFalsely : Prop := reversalFindsRow.holds Try.pinned (OpenSpec.ofChange reversalFindsWrong)

/-- 'langdoclaw28.ReversalUpdates': WHATEVER THE INPUT: true; the input reads as it did. -/
def reversalUpdatesSpec : ChangeSpec := { name := "reversalUpdates", fn := fun _ => fun
  | [d1, d2, d3] => { results := [.lit (.bool true)], args := [d1, d2, d3] }
  | _ => none }
def reversalUpdatesRow : OpenClaim := { program := "ytffcabenoakmgaa", sum := "022e18e23a2f49ea18d1513c2d36ec2872f9e5453bfd794c81157c15109cc6e5", func := "langdoc/langdoclaw28.ReversalUpdates", spec := "reversalUpdates", inPlace := ["slices.overlaps[langdoc/api.Row]", "slices.overlaps[langdoc/api.Part]"], unfollowed := true, recurses := true, apart := false }
def ReversalUpdatesSaid : Prop := reversalUpdatesRow.holds Try.pinned (OpenSpec.ofChange reversalUpdatesSpec)

/-- ITS FALSE NEIGHBOUR: 'it returns false'. Refute it at one input. -/
def reversalUpdatesWrong : ChangeSpec := { name := "reversalUpdates", fn := fun _ => fun
  | [d1, d2, d3] => { results := [.lit (.bool false)], args := [d1, d2, d3] }
  | _ => none }
def ReversalUpdatesWrongFalsely : Prop := reversalUpdatesRow.holds Try.pinned (OpenSpec.ofChange reversalUpdatesWrong)

/-- 'langdoclaw28.ReversalSame': WHATEVER THE INPUT: true; the input reads as it did. -/
def reversalSameSpec : ChangeSpec := { name := "reversalSame", fn := fun _ => fun
  | [d1, d2] => { results := [.lit (.bool true)], args := [d1, d2] }
  | _ => none }
def reversalSameRow : OpenClaim := { program := "ytffcabenoakmgaa", sum := "022e18e23a2f49ea18d1513c2d36ec2872f9e5453bfd794c81157c15109cc6e5", func := "langdoc/langdoclaw28.ReversalSame", spec := "reversalSame", inPlace := ["slices.overlaps[langdoc/api.Row]", "slices.overlaps[langdoc/api.Part]"], unfollowed := true, recurses := true, apart := false }
def ReversalSameSaid : Prop := reversalSameRow.holds Try.pinned (OpenSpec.ofChange reversalSameSpec)

/-- ITS FALSE NEIGHBOUR: 'it returns false'. Refute it at one input. -/
def reversalSameWrong : ChangeSpec := { name := "reversalSame", fn := fun _ => fun
  | [d1, d2] => { results := [.lit (.bool false)], args := [d1, d2] }
  | _ => none }
def ReversalSameWrongFalsely : Prop := reversalSameRow.holds Try.pinned (OpenSpec.ofChange reversalSameWrong)

/-- 'langdoclaw28.ReversalFollows': WHATEVER THE INPUT: true; the input reads as it did. -/
def reversalFollowsSpec : ChangeSpec := { name := "reversalFollows", fn := fun _ => fun
  | [d1, d2, d3] => { results := [.lit (.bool true)], args := [d1, d2, d3] }
  | _ => none }
def reversalFollowsRow : OpenClaim := { program := "ytffcabenoakmgaa", sum := "022e18e23a2f49ea18d1513c2d36ec2872f9e5453bfd794c81157c15109cc6e5", func := "langdoc/langdoclaw28.ReversalFollows", spec := "reversalFollows", inPlace := ["slices.overlaps[langdoc/api.Row]", "slices.overlaps[langdoc/api.Part]"], unfollowed := true, recurses := true, apart := false }
def ReversalFollowsSaid : Prop := reversalFollowsRow.holds Try.pinned (OpenSpec.ofChange reversalFollowsSpec)

/-- ITS FALSE NEIGHBOUR: 'it returns false'. Refute it at one input. -/
def reversalFollowsWrong : ChangeSpec := { name := "reversalFollows", fn := fun _ => fun
  | [d1, d2, d3] => { results := [.lit (.bool false)], args := [d1, d2, d3] }
  | _ => none }
def ReversalFollowsWrongFalsely : Prop := reversalFollowsRow.holds Try.pinned (OpenSpec.ofChange reversalFollowsWrong)

/-- 'langdoclaw28.ReversalOnce': WHATEVER THE INPUT: true; the input reads as it did. -/
def reversalOnceSpec : ChangeSpec := { name := "reversalOnce", fn := fun _ => fun
  | [d] => { results := [.lit (.bool true)], args := [d] }
  | _ => none }
def reversalOnceRow : OpenClaim := { program := "ytffcabenoakmgaa", sum := "022e18e23a2f49ea18d1513c2d36ec2872f9e5453bfd794c81157c15109cc6e5", func := "langdoc/langdoclaw28.ReversalOnce", spec := "reversalOnce", inPlace := ["slices.overlaps[langdoc/api.Row]", "slices.overlaps[langdoc/api.Part]"], unfollowed := true, recurses := true, apart := false }
def ReversalOnceSaid : Prop := reversalOnceRow.holds Try.pinned (OpenSpec.ofChange reversalOnceSpec)

/-- ITS FALSE NEIGHBOUR: 'it returns false'. Refute it at one input. -/
def reversalOnceWrong : ChangeSpec := { name := "reversalOnce", fn := fun _ => fun
  | [d] => { results := [.lit (.bool false)], args := [d] }
  | _ => none }
def ReversalOnceWrongFalsely : Prop := reversalOnceRow.holds Try.pinned (OpenSpec.ofChange reversalOnceWrong)

/-- 'langdoclaw28.ReversalUndone': WHATEVER THE INPUT: true; the input reads as it did. -/
def reversalUndoneSpec : ChangeSpec := { name := "reversalUndone", fn := fun _ => fun
  | [d1, d2] => { results := [.lit (.bool true)], args := [d1, d2] }
  | _ => none }
def reversalUndoneRow : OpenClaim := { program := "ytffcabenoakmgaa", sum := "022e18e23a2f49ea18d1513c2d36ec2872f9e5453bfd794c81157c15109cc6e5", func := "langdoc/langdoclaw28.ReversalUndone", spec := "reversalUndone", inPlace := ["slices.overlaps[langdoc/api.Row]", "slices.overlaps[langdoc/api.Part]"], unfollowed := true, recurses := true, apart := false }
def ReversalUndoneSaid : Prop := reversalUndoneRow.holds Try.pinned (OpenSpec.ofChange reversalUndoneSpec)

/-- ITS FALSE NEIGHBOUR: 'it returns false'. Refute it at one input. -/
def reversalUndoneWrong : ChangeSpec := { name := "reversalUndone", fn := fun _ => fun
  | [d1, d2] => { results := [.lit (.bool false)], args := [d1, d2] }
  | _ => none }
def ReversalUndoneWrongFalsely : Prop := reversalUndoneRow.holds Try.pinned (OpenSpec.ofChange reversalUndoneWrong)

/- THE SECOND FORM. 'bulk': how many values and letters a reading holds, each counted each time it is reached (what is shared counts as often as it is met; a slice's spare places count too). A statement '..UptoSaid' is the law's where the arguments, and the package variables that the reading takes, are together of bulk at most 1048576: NARROWER than '..Said'. Prove '..Said' where nothing that the law and all that it calls make is longer than what came in: it says more and counts as full. Else prove '..UptoSaid'. A law counts once. -/
mutual
def uptoBulk {H : Type} : DataW H → Nat
  | .lit (.string bytes) => bytes.length + 1
  | .lit _ => 1
  | .nil => 1
  | .ptr d => uptoBulk d + 1
  | .slice elems spare => uptoBulkAll elems + uptoBulkAll spare + 1
  | .agg parts => uptoBulkAll parts + 1
  | .iface _ d => uptoBulk d + 1
  | .map entries => uptoBulkEntries entries + 1
  | .held _ => 1
def uptoBulkAll {H : Type} : List (DataW H) → Nat
  | [] => 0
  | d :: r => uptoBulk d + uptoBulkAll r
def uptoBulkEntries {H : Type} : List (Lit × DataW H) → Nat
  | [] => 0
  | x :: r => uptoBulkEntry x + uptoBulkEntries r
def uptoBulkEntry {H : Type} : Lit × DataW H → Nat
  | (.string bytes, d) => bytes.length + uptoBulk d + 1
  | (_, d) => uptoBulk d + 1
 end
def uptoSmall : (H : Type) → List (DataW H) → Bool := fun _ ds => decide (uptoBulkAll ds ≤ 1048576)
def OpenSpec.upto (s : _root_.Go.ChangeSpec) : _root_.Go.OpenSpec := { _root_.Go.OpenSpec.ofChange s with cond := some uptoSmall }

/-- 'langdoclaw28.ReversalBuilds', WHERE WHAT IT READS IS OF BULK AT MOST 1048576: true; the input reads as it did. -/
def reversalBuildsUptoRow : OpenClaim := { program := "ytffcabenoakmgaa", sum := "022e18e23a2f49ea18d1513c2d36ec2872f9e5453bfd794c81157c15109cc6e5", func := "langdoc/langdoclaw28.ReversalBuilds", spec := "reversalBuilds", inPlace := ["slices.overlaps[langdoc/api.Row]", "slices.overlaps[langdoc/api.Part]"], unfollowed := true, recurses := true, apart := false, narrowed := true }
def ReversalBuildsUptoSaid : Prop := reversalBuildsUptoRow.holds Try.pinned (OpenSpec.upto reversalBuildsSpec)

/-- 'langdoclaw28.ReversalChecks', WHERE WHAT IT READS IS OF BULK AT MOST 1048576: true; the input reads as it did. -/
def reversalChecksUptoRow : OpenClaim := { program := "ytffcabenoakmgaa", sum := "022e18e23a2f49ea18d1513c2d36ec2872f9e5453bfd794c81157c15109cc6e5", func := "langdoc/langdoclaw28.ReversalChecks", spec := "reversalChecks", inPlace := ["slices.overlaps[langdoc/api.Row]", "slices.overlaps[langdoc/api.Part]"], unfollowed := true, recurses := true, apart := false, narrowed := true }
def ReversalChecksUptoSaid : Prop := reversalChecksUptoRow.holds Try.pinned (OpenSpec.upto reversalChecksSpec)

/-- 'langdoclaw28.ReversalFinds', WHERE WHAT IT READS IS OF BULK AT MOST 1048576: true; the input reads as it did. -/
def reversalFindsUptoRow : OpenClaim := { program := "ytffcabenoakmgaa", sum := "022e18e23a2f49ea18d1513c2d36ec2872f9e5453bfd794c81157c15109cc6e5", func := "langdoc/langdoclaw28.ReversalFinds", spec := "reversalFinds", inPlace := ["slices.overlaps[langdoc/api.Row]", "slices.overlaps[langdoc/api.Part]"], unfollowed := true, recurses := true, apart := false, narrowed := true }
def ReversalFindsUptoSaid : Prop := reversalFindsUptoRow.holds Try.pinned (OpenSpec.upto reversalFindsSpec)

/-- 'langdoclaw28.ReversalUpdates', WHERE WHAT IT READS IS OF BULK AT MOST 1048576: true; the input reads as it did. -/
def reversalUpdatesUptoRow : OpenClaim := { program := "ytffcabenoakmgaa", sum := "022e18e23a2f49ea18d1513c2d36ec2872f9e5453bfd794c81157c15109cc6e5", func := "langdoc/langdoclaw28.ReversalUpdates", spec := "reversalUpdates", inPlace := ["slices.overlaps[langdoc/api.Row]", "slices.overlaps[langdoc/api.Part]"], unfollowed := true, recurses := true, apart := false, narrowed := true }
def ReversalUpdatesUptoSaid : Prop := reversalUpdatesUptoRow.holds Try.pinned (OpenSpec.upto reversalUpdatesSpec)

/-- 'langdoclaw28.ReversalSame', WHERE WHAT IT READS IS OF BULK AT MOST 1048576: true; the input reads as it did. -/
def reversalSameUptoRow : OpenClaim := { program := "ytffcabenoakmgaa", sum := "022e18e23a2f49ea18d1513c2d36ec2872f9e5453bfd794c81157c15109cc6e5", func := "langdoc/langdoclaw28.ReversalSame", spec := "reversalSame", inPlace := ["slices.overlaps[langdoc/api.Row]", "slices.overlaps[langdoc/api.Part]"], unfollowed := true, recurses := true, apart := false, narrowed := true }
def ReversalSameUptoSaid : Prop := reversalSameUptoRow.holds Try.pinned (OpenSpec.upto reversalSameSpec)

/-- 'langdoclaw28.ReversalFollows', WHERE WHAT IT READS IS OF BULK AT MOST 1048576: true; the input reads as it did. -/
def reversalFollowsUptoRow : OpenClaim := { program := "ytffcabenoakmgaa", sum := "022e18e23a2f49ea18d1513c2d36ec2872f9e5453bfd794c81157c15109cc6e5", func := "langdoc/langdoclaw28.ReversalFollows", spec := "reversalFollows", inPlace := ["slices.overlaps[langdoc/api.Row]", "slices.overlaps[langdoc/api.Part]"], unfollowed := true, recurses := true, apart := false, narrowed := true }
def ReversalFollowsUptoSaid : Prop := reversalFollowsUptoRow.holds Try.pinned (OpenSpec.upto reversalFollowsSpec)

/-- 'langdoclaw28.ReversalOnce', WHERE WHAT IT READS IS OF BULK AT MOST 1048576: true; the input reads as it did. -/
def reversalOnceUptoRow : OpenClaim := { program := "ytffcabenoakmgaa", sum := "022e18e23a2f49ea18d1513c2d36ec2872f9e5453bfd794c81157c15109cc6e5", func := "langdoc/langdoclaw28.ReversalOnce", spec := "reversalOnce", inPlace := ["slices.overlaps[langdoc/api.Row]", "slices.overlaps[langdoc/api.Part]"], unfollowed := true, recurses := true, apart := false, narrowed := true }
def ReversalOnceUptoSaid : Prop := reversalOnceUptoRow.holds Try.pinned (OpenSpec.upto reversalOnceSpec)

/-- 'langdoclaw28.ReversalUndone', WHERE WHAT IT READS IS OF BULK AT MOST 1048576: true; the input reads as it did. -/
def reversalUndoneUptoRow : OpenClaim := { program := "ytffcabenoakmgaa", sum := "022e18e23a2f49ea18d1513c2d36ec2872f9e5453bfd794c81157c15109cc6e5", func := "langdoc/langdoclaw28.ReversalUndone", spec := "reversalUndone", inPlace := ["slices.overlaps[langdoc/api.Row]", "slices.overlaps[langdoc/api.Part]"], unfollowed := true, recurses := true, apart := false, narrowed := true }
def ReversalUndoneUptoSaid : Prop := reversalUndoneUptoRow.holds Try.pinned (OpenSpec.upto reversalUndoneSpec)

end Rows
end Go.Proofs.Ytffcabenoakmgaa
