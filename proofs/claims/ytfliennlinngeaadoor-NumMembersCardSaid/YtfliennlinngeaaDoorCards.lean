/-
  DERIVED. GIVEN WITH THE SEED: THE CARDS: each row of YtfliennlinngeaaDoorRows.lean that lists a variable, with what it lists TIED to the program's text (the seventh form; the later family's looks); each row that meets fmt, with fmt's text TOLD by the authors' own Lean function (tested against real Go, not proved from fmt's source: count such statements apart). THE CARD IS WHAT COUNTS. Prove the row's statement (the work); the ties are given (YtfliennlinngeaaDoorTie.lean); close each card by the builder's one call (the guide's Derived/Test/ToyasCard.lean, 'card_holds'). Laid BY PROGRAM, IN A SANDBOX (cutbox-door.mjs). By AI agents, Wed Nov 11 2026. No macro, syntax, notation, axiom, sorry.
-/
import Derived.Test.YtfliennlinngeaaDoorRows
import GoSem.ClaimSeven
namespace Go.Proofs.YtfliennlinngeaaDoor
namespace Rows

/-- THE TIED CARD OF 'langdoclaw01.NumClips'. -/
def numClipsCard : Claim7 := { stood := { row := numClipsRow, standIns := [], harness := (true, "c7799a0ec4bd8d653f80e05c79caf583ec6240084668b298758cc2704c9717a2"), looks := true }, kinds := [], alts := [], laidByText := true, laidKinds := [.data, .data, .data, .sentinel, .sentinel, .data], laidTests := true, laidLooks := .later }
def NumClipsCardSaid : Prop := Claim7.holds Tryd.pinned (.plain (OpenSpec.ofChange numClipsSpec)) numClipsCard

/-- THE TIED CARD OF 'langdoclaw01.NumTexts'. -/
def numTextsCard : Claim7 := { stood := { row := numTextsRow, standIns := [], harness := (true, "c7799a0ec4bd8d653f80e05c79caf583ec6240084668b298758cc2704c9717a2"), looks := true }, kinds := [], alts := [], laidByText := true, laidKinds := [.data, .data, .data, .sentinel, .sentinel, .data], laidTests := true, laidLooks := .later }
def NumTextsCardSaid : Prop := Claim7.holds Tryd.pinned (.plain (OpenSpec.ofChange numTextsSpec)) numTextsCard

/-- THE TIED CARD OF 'langdoclaw01.NumReads'. -/
def numReadsCard : Claim7 := { stood := { row := numReadsRow, standIns := [], harness := (true, "c7799a0ec4bd8d653f80e05c79caf583ec6240084668b298758cc2704c9717a2"), looks := true }, kinds := [], alts := [], laidByText := true, laidKinds := [.data, .data, .data, .sentinel, .sentinel, .data], laidTests := true, laidLooks := .later }
def NumReadsCardSaid : Prop := Claim7.holds Tryd.pinned (.plain (OpenSpec.ofChange numReadsSpec)) numReadsCard

/-- THE TIED CARD OF 'langdoclaw01.NumOnly'. -/
def numOnlyCard : Claim7 := { stood := { row := numOnlyRow, standIns := [], harness := (true, "c7799a0ec4bd8d653f80e05c79caf583ec6240084668b298758cc2704c9717a2"), looks := true }, kinds := [], alts := [], laidByText := true, laidKinds := [.data, .data, .data, .sentinel, .sentinel, .data], laidTests := true, laidLooks := .later }
def NumOnlyCardSaid : Prop := Claim7.holds Tryd.pinned (.plain (OpenSpec.ofChange numOnlySpec)) numOnlyCard

/-- THE TIED CARD OF 'langdoclaw01.NumSorts'. -/
def numSortsCard : Claim7 := { stood := { row := numSortsRow, standIns := [], harness := (true, "c7799a0ec4bd8d653f80e05c79caf583ec6240084668b298758cc2704c9717a2"), looks := true }, kinds := [], alts := [], laidByText := true, laidKinds := [.data, .data, .data, .sentinel, .sentinel, .data], laidTests := true, laidLooks := .later }
def NumSortsCardSaid : Prop := Claim7.holds Tryd.pinned (.plain (OpenSpec.ofChange numSortsSpec)) numSortsCard

/-- THE TIED CARD OF 'langdoclaw01.NumSets'. -/
def numSetsCard : Claim7 := { stood := { row := numSetsRow, standIns := [], harness := (true, "c7799a0ec4bd8d653f80e05c79caf583ec6240084668b298758cc2704c9717a2"), looks := true }, kinds := [], alts := [], laidByText := true, laidKinds := [.data, .data, .data, .sentinel, .sentinel, .data], laidTests := true, laidLooks := .later }
def NumSetsCardSaid : Prop := Claim7.holds Tryd.pinned (.plain (OpenSpec.ofChange numSetsSpec)) numSetsCard

/-- THE TIED CARD OF 'langdoclaw01.NumDivides'. -/
def numDividesCard : Claim7 := { stood := { row := numDividesRow, standIns := [], harness := (true, "c7799a0ec4bd8d653f80e05c79caf583ec6240084668b298758cc2704c9717a2"), looks := true }, kinds := [], alts := [], laidByText := true, laidKinds := [.data, .data, .data, .sentinel, .sentinel, .data], laidTests := true, laidLooks := .later }
def NumDividesCardSaid : Prop := Claim7.holds Tryd.pinned (.plain (OpenSpec.ofChange numDividesSpec)) numDividesCard

/-- THE TIED CARD OF 'langdoclaw01.NumMembers'. -/
def numMembersCard : Claim7 := { stood := { row := numMembersRow, standIns := [], harness := (true, "c7799a0ec4bd8d653f80e05c79caf583ec6240084668b298758cc2704c9717a2"), looks := true }, kinds := [], alts := [], laidByText := true, laidKinds := [.data, .data, .data, .sentinel, .sentinel, .data], laidTests := true, laidLooks := .later }
def NumMembersCardSaid : Prop := Claim7.holds Tryd.pinned (.plain (OpenSpec.ofChange numMembersSpec)) numMembersCard

/-- THE SECOND FORM's CARD OF 'langdoclaw01.NumClips'. -/
def numClipsUptoCard : Claim7 := { stood := { row := numClipsUptoRow, standIns := [], harness := (true, "c7799a0ec4bd8d653f80e05c79caf583ec6240084668b298758cc2704c9717a2"), looks := true }, kinds := [], alts := [], laidByText := true, laidKinds := [.data, .data, .data, .sentinel, .sentinel, .data], laidTests := true, laidLooks := .later }
def NumClipsUptoCardSaid : Prop := Claim7.holds Tryd.pinned (.plain (OpenSpec.upto numClipsSpec)) numClipsUptoCard

/-- THE SECOND FORM's CARD OF 'langdoclaw01.NumTexts'. -/
def numTextsUptoCard : Claim7 := { stood := { row := numTextsUptoRow, standIns := [], harness := (true, "c7799a0ec4bd8d653f80e05c79caf583ec6240084668b298758cc2704c9717a2"), looks := true }, kinds := [], alts := [], laidByText := true, laidKinds := [.data, .data, .data, .sentinel, .sentinel, .data], laidTests := true, laidLooks := .later }
def NumTextsUptoCardSaid : Prop := Claim7.holds Tryd.pinned (.plain (OpenSpec.upto numTextsSpec)) numTextsUptoCard

/-- THE SECOND FORM's CARD OF 'langdoclaw01.NumReads'. -/
def numReadsUptoCard : Claim7 := { stood := { row := numReadsUptoRow, standIns := [], harness := (true, "c7799a0ec4bd8d653f80e05c79caf583ec6240084668b298758cc2704c9717a2"), looks := true }, kinds := [], alts := [], laidByText := true, laidKinds := [.data, .data, .data, .sentinel, .sentinel, .data], laidTests := true, laidLooks := .later }
def NumReadsUptoCardSaid : Prop := Claim7.holds Tryd.pinned (.plain (OpenSpec.upto numReadsSpec)) numReadsUptoCard

/-- THE SECOND FORM's CARD OF 'langdoclaw01.NumOnly'. -/
def numOnlyUptoCard : Claim7 := { stood := { row := numOnlyUptoRow, standIns := [], harness := (true, "c7799a0ec4bd8d653f80e05c79caf583ec6240084668b298758cc2704c9717a2"), looks := true }, kinds := [], alts := [], laidByText := true, laidKinds := [.data, .data, .data, .sentinel, .sentinel, .data], laidTests := true, laidLooks := .later }
def NumOnlyUptoCardSaid : Prop := Claim7.holds Tryd.pinned (.plain (OpenSpec.upto numOnlySpec)) numOnlyUptoCard

/-- THE SECOND FORM's CARD OF 'langdoclaw01.NumSorts'. -/
def numSortsUptoCard : Claim7 := { stood := { row := numSortsUptoRow, standIns := [], harness := (true, "c7799a0ec4bd8d653f80e05c79caf583ec6240084668b298758cc2704c9717a2"), looks := true }, kinds := [], alts := [], laidByText := true, laidKinds := [.data, .data, .data, .sentinel, .sentinel, .data], laidTests := true, laidLooks := .later }
def NumSortsUptoCardSaid : Prop := Claim7.holds Tryd.pinned (.plain (OpenSpec.upto numSortsSpec)) numSortsUptoCard

/-- THE SECOND FORM's CARD OF 'langdoclaw01.NumSets'. -/
def numSetsUptoCard : Claim7 := { stood := { row := numSetsUptoRow, standIns := [], harness := (true, "c7799a0ec4bd8d653f80e05c79caf583ec6240084668b298758cc2704c9717a2"), looks := true }, kinds := [], alts := [], laidByText := true, laidKinds := [.data, .data, .data, .sentinel, .sentinel, .data], laidTests := true, laidLooks := .later }
def NumSetsUptoCardSaid : Prop := Claim7.holds Tryd.pinned (.plain (OpenSpec.upto numSetsSpec)) numSetsUptoCard

/-- THE SECOND FORM's CARD OF 'langdoclaw01.NumDivides'. -/
def numDividesUptoCard : Claim7 := { stood := { row := numDividesUptoRow, standIns := [], harness := (true, "c7799a0ec4bd8d653f80e05c79caf583ec6240084668b298758cc2704c9717a2"), looks := true }, kinds := [], alts := [], laidByText := true, laidKinds := [.data, .data, .data, .sentinel, .sentinel, .data], laidTests := true, laidLooks := .later }
def NumDividesUptoCardSaid : Prop := Claim7.holds Tryd.pinned (.plain (OpenSpec.upto numDividesSpec)) numDividesUptoCard

/-- THE SECOND FORM's CARD OF 'langdoclaw01.NumMembers'. -/
def numMembersUptoCard : Claim7 := { stood := { row := numMembersUptoRow, standIns := [], harness := (true, "c7799a0ec4bd8d653f80e05c79caf583ec6240084668b298758cc2704c9717a2"), looks := true }, kinds := [], alts := [], laidByText := true, laidKinds := [.data, .data, .data, .sentinel, .sentinel, .data], laidTests := true, laidLooks := .later }
def NumMembersUptoCardSaid : Prop := Claim7.holds Tryd.pinned (.plain (OpenSpec.upto numMembersSpec)) numMembersUptoCard
end Rows
end Go.Proofs.YtfliennlinngeaaDoor
