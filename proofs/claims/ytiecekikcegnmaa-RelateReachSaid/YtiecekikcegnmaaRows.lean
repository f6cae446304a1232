/-
  No cell of these rows narrows 'for every input' (looked for: loops, veiled, ifaces, maps, wideKeys, modest, calm, conditions, laid).
  DERIVED. THE GIVEN ROWS OF THIS SEAT. 8 by the template 'for every input the law returns true; each argument reads behind the call as it read before'; 0 by the template 'total and deterministic' (their statements: YtiecekikcegnmaaTotals.lean).
  GIVEN WITH THE SEED: the statements are not yours to turn. If you find one false, say at which input.
  Laid BY PROGRAM, IN A SANDBOX (cutbox-rows.mjs): the forced cells as the released guide's own fill.sh prints them over the translation f430c6c7fabe03a2… (all of the seat's roots in one cut). By AI agents, Wed Nov 11 2026. No macro, syntax, notation, axiom, sorry.
-/
import Derived.Test.YtiecekikcegnmaaChecked
import GoSem.Claim
import GoSem.ClaimJoined
import GoSem.ClaimMapViews
import Derived.JoinedTies
import Derived.KernelRfl
namespace Go.Proofs.Ytiecekikcegnmaa
/- THE CELL 'sum', in the pinned program and in every row, IS THE sha256 OF THE DUMP (.gsa) THAT YtiecekikcegnmaaProg.lean LOADS. Nothing in Lean hashes anything: it is a label: what it is worth is what the hold of that sum in a sandbox is worth. -/
noncomputable def Try.pinned : Pinned := { name := "ytiecekikcegnmaa", sum := "f430c6c7fabe03a2851d9c5ae45cb5108e52e576d559a1973177128d718e8aac", checked := Try.checked }
namespace Rows
def none {H : Type} : Left H := { results := [], args := [] }

/-- 'langdoclaw26.RelateInverse': WHATEVER THE INPUT: true; the input reads as it did. -/
def relateInverseSpec : ChangeSpec := { name := "relateInverse", fn := fun _ => fun
  | [d] => { results := [.lit (.bool true)], args := [d] }
  | _ => none }
def relateInverseRow : OpenClaim := { program := "ytiecekikcegnmaa", sum := "f430c6c7fabe03a2851d9c5ae45cb5108e52e576d559a1973177128d718e8aac", func := "langdoc/langdoclaw26.RelateInverse", spec := "relateInverse", inPlace := ["slices.overlaps[langdoc/api.Link]"], unfollowed := true, recurses := true, apart := false }
def RelateInverseSaid : Prop := relateInverseRow.holds Try.pinned (OpenSpec.ofChange relateInverseSpec)

/-- ITS FALSE NEIGHBOUR: 'it returns false'. Refute it at one input. -/
def relateInverseWrong : ChangeSpec := { name := "relateInverse", fn := fun _ => fun
  | [d] => { results := [.lit (.bool false)], args := [d] }
  | _ => none }
def RelateInverseWrongFalsely : Prop := relateInverseRow.holds Try.pinned (OpenSpec.ofChange relateInverseWrong)

/-- 'langdoclaw26.RelateCheck': WHATEVER THE INPUT: true; the input reads as it did. -/
def relateCheckSpec : ChangeSpec := { name := "relateCheck", fn := fun _ => fun
  | [d] => { results := [.lit (.bool true)], args := [d] }
  | _ => none }
def relateCheckRow : OpenClaim := { program := "ytiecekikcegnmaa", sum := "f430c6c7fabe03a2851d9c5ae45cb5108e52e576d559a1973177128d718e8aac", func := "langdoc/langdoclaw26.RelateCheck", spec := "relateCheck", inPlace := ["slices.overlaps[langdoc/api.Link]"], unfollowed := true, recurses := true, apart := false }
def RelateCheckSaid : Prop := relateCheckRow.holds Try.pinned (OpenSpec.ofChange relateCheckSpec)

/-- ITS FALSE NEIGHBOUR: 'it returns false'. Refute it at one input. -/
def relateCheckWrong : ChangeSpec := { name := "relateCheck", fn := fun _ => fun
  | [d] => { results := [.lit (.bool false)], args := [d] }
  | _ => none }
def RelateCheckWrongFalsely : Prop := relateCheckRow.holds Try.pinned (OpenSpec.ofChange relateCheckWrong)

/-- 'langdoclaw26.RelateLinks': WHATEVER THE INPUT: true; the input reads as it did. -/
def relateLinksSpec : ChangeSpec := { name := "relateLinks", fn := fun _ => fun
  | [d] => { results := [.lit (.bool true)], args := [d] }
  | _ => none }
def relateLinksRow : OpenClaim := { program := "ytiecekikcegnmaa", sum := "f430c6c7fabe03a2851d9c5ae45cb5108e52e576d559a1973177128d718e8aac", func := "langdoc/langdoclaw26.RelateLinks", spec := "relateLinks", inPlace := ["slices.overlaps[langdoc/api.Link]"], unfollowed := true, recurses := true, apart := false }
def RelateLinksSaid : Prop := relateLinksRow.holds Try.pinned (OpenSpec.ofChange relateLinksSpec)

/-- ITS FALSE NEIGHBOUR: 'it returns false'. Refute it at one input. -/
def relateLinksWrong : ChangeSpec := { name := "relateLinks", fn := fun _ => fun
  | [d] => { results := [.lit (.bool false)], args := [d] }
  | _ => none }
def RelateLinksWrongFalsely : Prop := relateLinksRow.holds Try.pinned (OpenSpec.ofChange relateLinksWrong)

/-- 'langdoclaw26.RelateUnlinks': WHATEVER THE INPUT: true; the input reads as it did. -/
def relateUnlinksSpec : ChangeSpec := { name := "relateUnlinks", fn := fun _ => fun
  | [d] => { results := [.lit (.bool true)], args := [d] }
  | _ => none }
def relateUnlinksRow : OpenClaim := { program := "ytiecekikcegnmaa", sum := "f430c6c7fabe03a2851d9c5ae45cb5108e52e576d559a1973177128d718e8aac", func := "langdoc/langdoclaw26.RelateUnlinks", spec := "relateUnlinks", inPlace := ["slices.overlaps[langdoc/api.Link]"], unfollowed := true, recurses := true, apart := false }
def RelateUnlinksSaid : Prop := relateUnlinksRow.holds Try.pinned (OpenSpec.ofChange relateUnlinksSpec)

/-- ITS FALSE NEIGHBOUR: 'it returns false'. Refute it at one input. -/
def relateUnlinksWrong : ChangeSpec := { name := "relateUnlinks", fn := fun _ => fun
  | [d] => { results := [.lit (.bool false)], args := [d] }
  | _ => none }
def RelateUnlinksWrongFalsely : Prop := relateUnlinksRow.holds Try.pinned (OpenSpec.ofChange relateUnlinksWrong)

/-- 'langdoclaw26.RelateReach': WHATEVER THE INPUT: true; the input reads as it did. -/
def relateReachSpec : ChangeSpec := { name := "relateReach", fn := fun _ => fun
  | [d1, d2, d3] => { results := [.lit (.bool true)], args := [d1, d2, d3] }
  | _ => none }
def relateReachRow : OpenClaim := { program := "ytiecekikcegnmaa", sum := "f430c6c7fabe03a2851d9c5ae45cb5108e52e576d559a1973177128d718e8aac", func := "langdoc/langdoclaw26.RelateReach", spec := "relateReach", inPlace := ["slices.overlaps[langdoc/api.Link]"], unfollowed := true, recurses := true, apart := false }
def RelateReachSaid : Prop := relateReachRow.holds Try.pinned (OpenSpec.ofChange relateReachSpec)

/-- ITS FALSE NEIGHBOUR: 'it returns false'. Refute it at one input. -/
def relateReachWrong : ChangeSpec := { name := "relateReach", fn := fun _ => fun
  | [d1, d2, d3] => { results := [.lit (.bool false)], args := [d1, d2, d3] }
  | _ => none }
def RelateReachWrongFalsely : Prop := relateReachRow.holds Try.pinned (OpenSpec.ofChange relateReachWrong)

/-- 'langdoclaw26.RelateKeeps': WHATEVER THE INPUT: true; the input reads as it did. -/
def relateKeepsSpec : ChangeSpec := { name := "relateKeeps", fn := fun _ => fun
  | [d] => { results := [.lit (.bool true)], args := [d] }
  | _ => none }
def relateKeepsRow : OpenClaim := { program := "ytiecekikcegnmaa", sum := "f430c6c7fabe03a2851d9c5ae45cb5108e52e576d559a1973177128d718e8aac", func := "langdoc/langdoclaw26.RelateKeeps", spec := "relateKeeps", inPlace := ["slices.overlaps[langdoc/api.Link]"], unfollowed := true, recurses := true, apart := false }
def RelateKeepsSaid : Prop := relateKeepsRow.holds Try.pinned (OpenSpec.ofChange relateKeepsSpec)

/-- ITS FALSE NEIGHBOUR: 'it returns false'. Refute it at one input. -/
def relateKeepsWrong : ChangeSpec := { name := "relateKeeps", fn := fun _ => fun
  | [d] => { results := [.lit (.bool false)], args := [d] }
  | _ => none }
def RelateKeepsWrongFalsely : Prop := relateKeepsRow.holds Try.pinned (OpenSpec.ofChange relateKeepsWrong)

/-- 'langdoclaw26.RelateBack': WHATEVER THE INPUT: true; the input reads as it did. -/
def relateBackSpec : ChangeSpec := { name := "relateBack", fn := fun _ => fun
  | [d] => { results := [.lit (.bool true)], args := [d] }
  | _ => none }
def relateBackRow : OpenClaim := { program := "ytiecekikcegnmaa", sum := "f430c6c7fabe03a2851d9c5ae45cb5108e52e576d559a1973177128d718e8aac", func := "langdoc/langdoclaw26.RelateBack", spec := "relateBack", inPlace := ["slices.overlaps[langdoc/api.Link]"], unfollowed := true, recurses := true, apart := false }
def RelateBackSaid : Prop := relateBackRow.holds Try.pinned (OpenSpec.ofChange relateBackSpec)

/-- ITS FALSE NEIGHBOUR: 'it returns false'. Refute it at one input. -/
def relateBackWrong : ChangeSpec := { name := "relateBack", fn := fun _ => fun
  | [d] => { results := [.lit (.bool false)], args := [d] }
  | _ => none }
def RelateBackWrongFalsely : Prop := relateBackRow.holds Try.pinned (OpenSpec.ofChange relateBackWrong)

/-- 'langdoclaw26.RelateTree': WHATEVER THE INPUT: true; the input reads as it did. -/
def relateTreeSpec : ChangeSpec := { name := "relateTree", fn := fun _ => fun
  | [d1, d2, d3] => { results := [.lit (.bool true)], args := [d1, d2, d3] }
  | _ => none }
def relateTreeRow : OpenClaim := { program := "ytiecekikcegnmaa", sum := "f430c6c7fabe03a2851d9c5ae45cb5108e52e576d559a1973177128d718e8aac", func := "langdoc/langdoclaw26.RelateTree", spec := "relateTree", inPlace := ["slices.overlaps[langdoc/api.Link]"], unfollowed := true, recurses := true, apart := false }
def RelateTreeSaid : Prop := relateTreeRow.holds Try.pinned (OpenSpec.ofChange relateTreeSpec)

/-- ITS FALSE NEIGHBOUR: 'it returns false'. Refute it at one input. -/
def relateTreeWrong : ChangeSpec := { name := "relateTree", fn := fun _ => fun
  | [d1, d2, d3] => { results := [.lit (.bool false)], args := [d1, d2, d3] }
  | _ => none }
def RelateTreeWrongFalsely : Prop := relateTreeRow.holds Try.pinned (OpenSpec.ofChange relateTreeWrong)

/- THE SECOND FORM. 'bulk': how many values and letters a reading holds, each counted each time it is reached (what is shared counts as often as it is met; a slice's spare places count too). A statement '..UptoSaid' is the law's where the arguments, and the package variables that the reading takes, are together of bulk at most 1048576: NARROWER than '..Said'. Prove '..Said' where nothing that the law and all that it calls make is longer than what came in: it says more and counts as full. Else prove '..UptoSaid'. A law counts once. -/
mutual
def uptoBulk {H : Type} : DataW H → Nat
  | .lit (.string bytes) => bytes.length + 1
  | .lit _ => 1
  | .nil => 1
  | .ptr d => uptoBulk d + 1
  | .slice elems spare => uptoBulkAll elems + uptoBulkAll spare + 1
  | .agg parts => uptoBulkAll parts + 1
  | .iface _ d => uptoBulk d + 1
  | .map entries => uptoBulkEntries entries + 1
  | .held _ => 1
def uptoBulkAll {H : Type} : List (DataW H) → Nat
  | [] => 0
  | d :: r => uptoBulk d + uptoBulkAll r
def uptoBulkEntries {H : Type} : List (Lit × DataW H) → Nat
  | [] => 0
  | x :: r => uptoBulkEntry x + uptoBulkEntries r
def uptoBulkEntry {H : Type} : Lit × DataW H → Nat
  | (.string bytes, d) => bytes.length + uptoBulk d + 1
  | (_, d) => uptoBulk d + 1
 end
def uptoSmall : (H : Type) → List (DataW H) → Bool := fun _ ds => decide (uptoBulkAll ds ≤ 1048576)
def OpenSpec.upto (s : _root_.Go.ChangeSpec) : _root_.Go.OpenSpec := { _root_.Go.OpenSpec.ofChange s with cond := some uptoSmall }

/-- 'langdoclaw26.RelateInverse', WHERE WHAT IT READS IS OF BULK AT MOST 1048576: true; the input reads as it did. -/
def relateInverseUptoRow : OpenClaim := { program := "ytiecekikcegnmaa", sum := "f430c6c7fabe03a2851d9c5ae45cb5108e52e576d559a1973177128d718e8aac", func := "langdoc/langdoclaw26.RelateInverse", spec := "relateInverse", inPlace := ["slices.overlaps[langdoc/api.Link]"], unfollowed := true, recurses := true, apart := false, narrowed := true }
def RelateInverseUptoSaid : Prop := relateInverseUptoRow.holds Try.pinned (OpenSpec.upto relateInverseSpec)

/-- 'langdoclaw26.RelateCheck', WHERE WHAT IT READS IS OF BULK AT MOST 1048576: true; the input reads as it did. -/
def relateCheckUptoRow : OpenClaim := { program := "ytiecekikcegnmaa", sum := "f430c6c7fabe03a2851d9c5ae45cb5108e52e576d559a1973177128d718e8aac", func := "langdoc/langdoclaw26.RelateCheck", spec := "relateCheck", inPlace := ["slices.overlaps[langdoc/api.Link]"], unfollowed := true, recurses := true, apart := false, narrowed := true }
def RelateCheckUptoSaid : Prop := relateCheckUptoRow.holds Try.pinned (OpenSpec.upto relateCheckSpec)

/-- 'langdoclaw26.RelateLinks', WHERE WHAT IT READS IS OF BULK AT MOST 1048576: true; the input reads as it did. -/
def relateLinksUptoRow : OpenClaim := { program := "ytiecekikcegnmaa", sum := "f430c6c7fabe03a2851d9c5ae45cb5108e52e576d559a1973177128d718e8aac", func := "langdoc/langdoclaw26.RelateLinks", spec := "relateLinks", inPlace := ["slices.overlaps[langdoc/api.Link]"], unfollowed := true, recurses := true, apart := false, narrowed := true }
def RelateLinksUptoSaid : Prop := relateLinksUptoRow.holds Try.pinned (OpenSpec.upto relateLinksSpec)

/-- 'langdoclaw26.RelateUnlinks', WHERE WHAT IT READS IS OF BULK AT MOST 1048576: true; the input reads as it did. -/
def relateUnlinksUptoRow : OpenClaim := { program := "ytiecekikcegnmaa", sum := "f430c6c7fabe03a2851d9c5ae45cb5108e52e576d559a1973177128d718e8aac", func := "langdoc/langdoclaw26.RelateUnlinks", spec := "relateUnlinks", inPlace := ["slices.overlaps[langdoc/api.Link]"], unfollowed := true, recurses := true, apart := false, narrowed := true }
def RelateUnlinksUptoSaid : Prop := relateUnlinksUptoRow.holds Try.pinned (OpenSpec.upto relateUnlinksSpec)

/-- 'langdoclaw26.RelateReach', WHERE WHAT IT READS IS OF BULK AT MOST 1048576: true; the input reads as it did. -/
def relateReachUptoRow : OpenClaim := { program := "ytiecekikcegnmaa", sum := "f430c6c7fabe03a2851d9c5ae45cb5108e52e576d559a1973177128d718e8aac", func := "langdoc/langdoclaw26.RelateReach", spec := "relateReach", inPlace := ["slices.overlaps[langdoc/api.Link]"], unfollowed := true, recurses := true, apart := false, narrowed := true }
def RelateReachUptoSaid : Prop := relateReachUptoRow.holds Try.pinned (OpenSpec.upto relateReachSpec)

/-- 'langdoclaw26.RelateKeeps', WHERE WHAT IT READS IS OF BULK AT MOST 1048576: true; the input reads as it did. -/
def relateKeepsUptoRow : OpenClaim := { program := "ytiecekikcegnmaa", sum := "f430c6c7fabe03a2851d9c5ae45cb5108e52e576d559a1973177128d718e8aac", func := "langdoc/langdoclaw26.RelateKeeps", spec := "relateKeeps", inPlace := ["slices.overlaps[langdoc/api.Link]"], unfollowed := true, recurses := true, apart := false, narrowed := true }
def RelateKeepsUptoSaid : Prop := relateKeepsUptoRow.holds Try.pinned (OpenSpec.upto relateKeepsSpec)

/-- 'langdoclaw26.RelateBack', WHERE WHAT IT READS IS OF BULK AT MOST 1048576: true; the input reads as it did. -/
def relateBackUptoRow : OpenClaim := { program := "ytiecekikcegnmaa", sum := "f430c6c7fabe03a2851d9c5ae45cb5108e52e576d559a1973177128d718e8aac", func := "langdoc/langdoclaw26.RelateBack", spec := "relateBack", inPlace := ["slices.overlaps[langdoc/api.Link]"], unfollowed := true, recurses := true, apart := false, narrowed := true }
def RelateBackUptoSaid : Prop := relateBackUptoRow.holds Try.pinned (OpenSpec.upto relateBackSpec)

/-- 'langdoclaw26.RelateTree', WHERE WHAT IT READS IS OF BULK AT MOST 1048576: true; the input reads as it did. -/
def relateTreeUptoRow : OpenClaim := { program := "ytiecekikcegnmaa", sum := "f430c6c7fabe03a2851d9c5ae45cb5108e52e576d559a1973177128d718e8aac", func := "langdoc/langdoclaw26.RelateTree", spec := "relateTree", inPlace := ["slices.overlaps[langdoc/api.Link]"], unfollowed := true, recurses := true, apart := false, narrowed := true }
def RelateTreeUptoSaid : Prop := relateTreeUptoRow.holds Try.pinned (OpenSpec.upto relateTreeSpec)

end Rows
end Go.Proofs.Ytiecekikcegnmaa
