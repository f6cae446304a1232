/-
  DERIVED. GIVEN WITH THE SEED: THE CARDS: each row of YtiaamlaibfpdgaaGreatDoorRows.lean that lists a variable, with what it lists TIED to the program's text (the seventh form; the later family's looks); each row that meets fmt, with fmt's text TOLD by the authors' own Lean function (tested against real Go, not proved from fmt's source: count such statements apart). THE CARD IS WHAT COUNTS. Prove the row's statement (the work); the ties are given (YtiaamlaibfpdgaaGreatDoorTie.lean); close each card by the builder's one call (the guide's Derived/Test/ToyasCard.lean, 'card_holds'). Laid BY PROGRAM, IN A SANDBOX (cutbox-door.mjs). By AI agents, Wed Nov 11 2026. No macro, syntax, notation, axiom, sorry.
-/
import Derived.Test.YtiaamlaibfpdgaaGreatDoorRows
import GoSem.ClaimSeven
namespace Go.Proofs.YtiaamlaibfpdgaaGreatDoor
namespace Rows

/-- THE TIED CARD OF 'langdoclaw24.EntryAttests'. -/
def entryAttestsCard : Claim7 := { stood := { row := entryAttestsRow, standIns := [], harness := (true, "aa991c6ea85ac91bc4936b8efeeb6de674e545a63260b8d515a5917e98aac5a9"), looks := false }, kinds := [], alts := [], laidByText := true, laidKinds := [.data, .pinned], laidTests := true, laidLooks := .later }
def EntryAttestsCardSaid : Prop := Claim7.holds Tryz.pinned (.plain (OpenSpec.ofChange entryAttestsSpec)) entryAttestsCard

/-- THE SECOND FORM's CARD OF 'langdoclaw24.EntryAttests'. -/
def entryAttestsUptoCard : Claim7 := { stood := { row := entryAttestsUptoRow, standIns := [], harness := (true, "aa991c6ea85ac91bc4936b8efeeb6de674e545a63260b8d515a5917e98aac5a9"), looks := false }, kinds := [], alts := [], laidByText := true, laidKinds := [.data, .pinned], laidTests := true, laidLooks := .later }
def EntryAttestsUptoCardSaid : Prop := Claim7.holds Tryz.pinned (.plain (OpenSpec.upto entryAttestsSpec)) entryAttestsUptoCard
end Rows
end Go.Proofs.YtiaamlaibfpdgaaGreatDoor
