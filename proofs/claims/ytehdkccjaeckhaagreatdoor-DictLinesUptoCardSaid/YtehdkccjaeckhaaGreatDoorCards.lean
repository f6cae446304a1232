/-
  DERIVED. GIVEN WITH THE SEED: THE CARDS: each row of YtehdkccjaeckhaaGreatDoorRows.lean that lists a variable, with what it lists TIED to the program's text (the seventh form; the later family's looks); each row that meets fmt, with fmt's text TOLD by the authors' own Lean function (tested against real Go, not proved from fmt's source: count such statements apart). THE CARD IS WHAT COUNTS. Prove the row's statement (the work); the ties are given (YtehdkccjaeckhaaGreatDoorTie.lean); close each card by the builder's one call (the guide's Derived/Test/ToyasCard.lean, 'card_holds'). Laid BY PROGRAM, IN A SANDBOX (cutbox-door.mjs). By AI agents, Wed Nov 11 2026. No macro, syntax, notation, axiom, sorry.
-/
import Derived.Test.YtehdkccjaeckhaaGreatDoorRows
import GoSem.ClaimSeven
namespace Go.Proofs.YtehdkccjaeckhaaGreatDoor
namespace Rows

/-- THE TIED CARD OF 'langdoclaw56.DictHeads'. -/
def dictHeadsCard : Claim7 := { stood := { row := dictHeadsRow, standIns := [], harness := (true, "38a55e56a174cc11c4831d27c3b4ec41d733045a0044e48a655fd6a670e5e615"), looks := false }, kinds := [], alts := [], laidByText := true, laidKinds := [.data, .data, .data], laidTests := true, laidLooks := .later }
def DictHeadsCardSaid : Prop := Claim7.holds Tryz.pinned (.plain (OpenSpec.ofChange dictHeadsSpec)) dictHeadsCard

/-- THE TIED CARD OF 'langdoclaw56.DictOrder'. -/
def dictOrderCard : Claim7 := { stood := { row := dictOrderRow, standIns := [], harness := (true, "38a55e56a174cc11c4831d27c3b4ec41d733045a0044e48a655fd6a670e5e615"), looks := false }, kinds := [], alts := [], laidByText := true, laidKinds := [.data, .data, .data], laidTests := true, laidLooks := .later }
def DictOrderCardSaid : Prop := Claim7.holds Tryz.pinned (.plain (OpenSpec.ofChange dictOrderSpec)) dictOrderCard

/-- THE TIED CARD OF 'langdoclaw56.DictArticle'. -/
def dictArticleCard : Claim7 := { stood := { row := dictArticleRow, standIns := [], harness := (true, "38a55e56a174cc11c4831d27c3b4ec41d733045a0044e48a655fd6a670e5e615"), looks := false }, kinds := [], alts := [], laidByText := true, laidKinds := [.data, .data, .data], laidTests := true, laidLooks := .later }
def DictArticleCardSaid : Prop := Claim7.holds Tryz.pinned (.plain (OpenSpec.ofChange dictArticleSpec)) dictArticleCard

/-- THE TIED CARD OF 'langdoclaw56.DictLines'. -/
def dictLinesCard : Claim7 := { stood := { row := dictLinesRow, standIns := [], harness := (true, "38a55e56a174cc11c4831d27c3b4ec41d733045a0044e48a655fd6a670e5e615"), looks := false }, kinds := [], alts := [], laidByText := true, laidKinds := [.data, .data, .data], laidTests := true, laidLooks := .later }
def DictLinesCardSaid : Prop := Claim7.holds Tryz.pinned (.plain (OpenSpec.ofChange dictLinesSpec)) dictLinesCard

/-- THE TIED CARD OF 'langdoclaw56.DictReversal'. -/
def dictReversalCard : Claim7 := { stood := { row := dictReversalRow, standIns := [], harness := (true, "38a55e56a174cc11c4831d27c3b4ec41d733045a0044e48a655fd6a670e5e615"), looks := false }, kinds := [], alts := [], laidByText := true, laidKinds := [.data, .data, .data], laidTests := true, laidLooks := .later }
def DictReversalCardSaid : Prop := Claim7.holds Tryz.pinned (.plain (OpenSpec.ofChange dictReversalSpec)) dictReversalCard

/-- THE TIED CARD OF 'langdoclaw56.DictOnce'. -/
def dictOnceCard : Claim7 := { stood := { row := dictOnceRow, standIns := [], harness := (true, "38a55e56a174cc11c4831d27c3b4ec41d733045a0044e48a655fd6a670e5e615"), looks := false }, kinds := [], alts := [], laidByText := true, laidKinds := [.data, .data, .data], laidTests := true, laidLooks := .later }
def DictOnceCardSaid : Prop := Claim7.holds Tryz.pinned (.plain (OpenSpec.ofChange dictOnceSpec)) dictOnceCard

/-- THE TIED CARD OF 'langdoclaw56.DictSorted'. -/
def dictSortedCard : Claim7 := { stood := { row := dictSortedRow, standIns := [], harness := (true, "38a55e56a174cc11c4831d27c3b4ec41d733045a0044e48a655fd6a670e5e615"), looks := false }, kinds := [], alts := [], laidByText := true, laidKinds := [.data, .data, .data], laidTests := true, laidLooks := .later }
def DictSortedCardSaid : Prop := Claim7.holds Tryz.pinned (.plain (OpenSpec.ofChange dictSortedSpec)) dictSortedCard

/-- THE TIED CARD OF 'langdoclaw56.DictLeads'. -/
def dictLeadsCard : Claim7 := { stood := { row := dictLeadsRow, standIns := [], harness := (true, "38a55e56a174cc11c4831d27c3b4ec41d733045a0044e48a655fd6a670e5e615"), looks := false }, kinds := [], alts := [], laidByText := true, laidKinds := [.data, .data, .data], laidTests := true, laidLooks := .later }
def DictLeadsCardSaid : Prop := Claim7.holds Tryz.pinned (.plain (OpenSpec.ofChange dictLeadsSpec)) dictLeadsCard

/-- THE TIED CARD OF 'langdoclaw56.DictHomonyms'. -/
def dictHomonymsCard : Claim7 := { stood := { row := dictHomonymsRow, standIns := [], harness := (true, "38a55e56a174cc11c4831d27c3b4ec41d733045a0044e48a655fd6a670e5e615"), looks := false }, kinds := [], alts := [], laidByText := true, laidKinds := [.data, .data, .data], laidTests := true, laidLooks := .later }
def DictHomonymsCardSaid : Prop := Claim7.holds Tryz.pinned (.plain (OpenSpec.ofChange dictHomonymsSpec)) dictHomonymsCard

/-- THE SECOND FORM's CARD OF 'langdoclaw56.DictHeads'. -/
def dictHeadsUptoCard : Claim7 := { stood := { row := dictHeadsUptoRow, standIns := [], harness := (true, "38a55e56a174cc11c4831d27c3b4ec41d733045a0044e48a655fd6a670e5e615"), looks := false }, kinds := [], alts := [], laidByText := true, laidKinds := [.data, .data, .data], laidTests := true, laidLooks := .later }
def DictHeadsUptoCardSaid : Prop := Claim7.holds Tryz.pinned (.plain (OpenSpec.upto dictHeadsSpec)) dictHeadsUptoCard

/-- THE SECOND FORM's CARD OF 'langdoclaw56.DictOrder'. -/
def dictOrderUptoCard : Claim7 := { stood := { row := dictOrderUptoRow, standIns := [], harness := (true, "38a55e56a174cc11c4831d27c3b4ec41d733045a0044e48a655fd6a670e5e615"), looks := false }, kinds := [], alts := [], laidByText := true, laidKinds := [.data, .data, .data], laidTests := true, laidLooks := .later }
def DictOrderUptoCardSaid : Prop := Claim7.holds Tryz.pinned (.plain (OpenSpec.upto dictOrderSpec)) dictOrderUptoCard

/-- THE SECOND FORM's CARD OF 'langdoclaw56.DictArticle'. -/
def dictArticleUptoCard : Claim7 := { stood := { row := dictArticleUptoRow, standIns := [], harness := (true, "38a55e56a174cc11c4831d27c3b4ec41d733045a0044e48a655fd6a670e5e615"), looks := false }, kinds := [], alts := [], laidByText := true, laidKinds := [.data, .data, .data], laidTests := true, laidLooks := .later }
def DictArticleUptoCardSaid : Prop := Claim7.holds Tryz.pinned (.plain (OpenSpec.upto dictArticleSpec)) dictArticleUptoCard

/-- THE SECOND FORM's CARD OF 'langdoclaw56.DictLines'. -/
def dictLinesUptoCard : Claim7 := { stood := { row := dictLinesUptoRow, standIns := [], harness := (true, "38a55e56a174cc11c4831d27c3b4ec41d733045a0044e48a655fd6a670e5e615"), looks := false }, kinds := [], alts := [], laidByText := true, laidKinds := [.data, .data, .data], laidTests := true, laidLooks := .later }
def DictLinesUptoCardSaid : Prop := Claim7.holds Tryz.pinned (.plain (OpenSpec.upto dictLinesSpec)) dictLinesUptoCard

/-- THE SECOND FORM's CARD OF 'langdoclaw56.DictReversal'. -/
def dictReversalUptoCard : Claim7 := { stood := { row := dictReversalUptoRow, standIns := [], harness := (true, "38a55e56a174cc11c4831d27c3b4ec41d733045a0044e48a655fd6a670e5e615"), looks := false }, kinds := [], alts := [], laidByText := true, laidKinds := [.data, .data, .data], laidTests := true, laidLooks := .later }
def DictReversalUptoCardSaid : Prop := Claim7.holds Tryz.pinned (.plain (OpenSpec.upto dictReversalSpec)) dictReversalUptoCard

/-- THE SECOND FORM's CARD OF 'langdoclaw56.DictOnce'. -/
def dictOnceUptoCard : Claim7 := { stood := { row := dictOnceUptoRow, standIns := [], harness := (true, "38a55e56a174cc11c4831d27c3b4ec41d733045a0044e48a655fd6a670e5e615"), looks := false }, kinds := [], alts := [], laidByText := true, laidKinds := [.data, .data, .data], laidTests := true, laidLooks := .later }
def DictOnceUptoCardSaid : Prop := Claim7.holds Tryz.pinned (.plain (OpenSpec.upto dictOnceSpec)) dictOnceUptoCard

/-- THE SECOND FORM's CARD OF 'langdoclaw56.DictSorted'. -/
def dictSortedUptoCard : Claim7 := { stood := { row := dictSortedUptoRow, standIns := [], harness := (true, "38a55e56a174cc11c4831d27c3b4ec41d733045a0044e48a655fd6a670e5e615"), looks := false }, kinds := [], alts := [], laidByText := true, laidKinds := [.data, .data, .data], laidTests := true, laidLooks := .later }
def DictSortedUptoCardSaid : Prop := Claim7.holds Tryz.pinned (.plain (OpenSpec.upto dictSortedSpec)) dictSortedUptoCard

/-- THE SECOND FORM's CARD OF 'langdoclaw56.DictLeads'. -/
def dictLeadsUptoCard : Claim7 := { stood := { row := dictLeadsUptoRow, standIns := [], harness := (true, "38a55e56a174cc11c4831d27c3b4ec41d733045a0044e48a655fd6a670e5e615"), looks := false }, kinds := [], alts := [], laidByText := true, laidKinds := [.data, .data, .data], laidTests := true, laidLooks := .later }
def DictLeadsUptoCardSaid : Prop := Claim7.holds Tryz.pinned (.plain (OpenSpec.upto dictLeadsSpec)) dictLeadsUptoCard

/-- THE SECOND FORM's CARD OF 'langdoclaw56.DictHomonyms'. -/
def dictHomonymsUptoCard : Claim7 := { stood := { row := dictHomonymsUptoRow, standIns := [], harness := (true, "38a55e56a174cc11c4831d27c3b4ec41d733045a0044e48a655fd6a670e5e615"), looks := false }, kinds := [], alts := [], laidByText := true, laidKinds := [.data, .data, .data], laidTests := true, laidLooks := .later }
def DictHomonymsUptoCardSaid : Prop := Claim7.holds Tryz.pinned (.plain (OpenSpec.upto dictHomonymsSpec)) dictHomonymsUptoCard
end Rows
end Go.Proofs.YtehdkccjaeckhaaGreatDoor
