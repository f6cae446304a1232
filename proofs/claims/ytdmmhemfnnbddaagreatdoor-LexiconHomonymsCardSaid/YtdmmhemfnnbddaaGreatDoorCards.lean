/-
  DERIVED. GIVEN WITH THE SEED: THE CARDS: each row of YtdmmhemfnnbddaaGreatDoorRows.lean that lists a variable, with what it lists TIED to the program's text (the seventh form; the later family's looks); each row that meets fmt, with fmt's text TOLD by the authors' own Lean function (tested against real Go, not proved from fmt's source: count such statements apart). THE CARD IS WHAT COUNTS. Prove the row's statement (the work); the ties are given (YtdmmhemfnnbddaaGreatDoorTie.lean); close each card by the builder's one call (the guide's Derived/Test/ToyasCard.lean, 'card_holds'). Laid BY PROGRAM, IN A SANDBOX (cutbox-door.mjs). By AI agents, Wed Nov 11 2026. No macro, syntax, notation, axiom, sorry.
-/
import Derived.Test.YtdmmhemfnnbddaaGreatDoorRows
import GoSem.ClaimSeven
namespace Go.Proofs.YtdmmhemfnnbddaaGreatDoor
namespace Rows

/-- THE TIED CARD OF 'langdoclaw25.LexiconChecks'. -/
def lexiconChecksCard : Claim7 := { stood := { row := lexiconChecksRow, standIns := [], harness := (true, "29699b048a19265788ffd0a87428770546cbaa15ed3dc5b9bdf3bed142d2f854"), looks := false }, kinds := [], alts := [], laidByText := true, laidKinds := [.data, .pinned], laidTests := true, laidLooks := .later }
def LexiconChecksCardSaid : Prop := Claim7.holds Tryz.pinned (.plain (OpenSpec.ofChange lexiconChecksSpec)) lexiconChecksCard

/-- THE TIED CARD OF 'langdoclaw25.LexiconGets'. -/
def lexiconGetsCard : Claim7 := { stood := { row := lexiconGetsRow, standIns := [], harness := (true, "29699b048a19265788ffd0a87428770546cbaa15ed3dc5b9bdf3bed142d2f854"), looks := false }, kinds := [], alts := [], laidByText := true, laidKinds := [.data, .pinned], laidTests := true, laidLooks := .later }
def LexiconGetsCardSaid : Prop := Claim7.holds Tryz.pinned (.plain (OpenSpec.ofChange lexiconGetsSpec)) lexiconGetsCard

/-- THE TIED CARD OF 'langdoclaw25.LexiconFinds'. -/
def lexiconFindsCard : Claim7 := { stood := { row := lexiconFindsRow, standIns := [], harness := (true, "29699b048a19265788ffd0a87428770546cbaa15ed3dc5b9bdf3bed142d2f854"), looks := false }, kinds := [], alts := [], laidByText := true, laidKinds := [.data, .pinned], laidTests := true, laidLooks := .later }
def LexiconFindsCardSaid : Prop := Claim7.holds Tryz.pinned (.plain (OpenSpec.ofChange lexiconFindsSpec)) lexiconFindsCard

/-- THE TIED CARD OF 'langdoclaw25.LexiconPuts'. -/
def lexiconPutsCard : Claim7 := { stood := { row := lexiconPutsRow, standIns := [], harness := (true, "29699b048a19265788ffd0a87428770546cbaa15ed3dc5b9bdf3bed142d2f854"), looks := false }, kinds := [], alts := [], laidByText := true, laidKinds := [.data, .pinned], laidTests := true, laidLooks := .later }
def LexiconPutsCardSaid : Prop := Claim7.holds Tryz.pinned (.plain (OpenSpec.ofChange lexiconPutsSpec)) lexiconPutsCard

/-- THE TIED CARD OF 'langdoclaw25.LexiconDrops'. -/
def lexiconDropsCard : Claim7 := { stood := { row := lexiconDropsRow, standIns := [], harness := (true, "29699b048a19265788ffd0a87428770546cbaa15ed3dc5b9bdf3bed142d2f854"), looks := false }, kinds := [], alts := [], laidByText := true, laidKinds := [.data, .pinned], laidTests := true, laidLooks := .later }
def LexiconDropsCardSaid : Prop := Claim7.holds Tryz.pinned (.plain (OpenSpec.ofChange lexiconDropsSpec)) lexiconDropsCard

/-- THE TIED CARD OF 'langdoclaw25.LexiconSame'. -/
def lexiconSameCard : Claim7 := { stood := { row := lexiconSameRow, standIns := [], harness := (true, "29699b048a19265788ffd0a87428770546cbaa15ed3dc5b9bdf3bed142d2f854"), looks := false }, kinds := [], alts := [], laidByText := true, laidKinds := [.data, .pinned], laidTests := true, laidLooks := .later }
def LexiconSameCardSaid : Prop := Claim7.holds Tryz.pinned (.plain (OpenSpec.ofChange lexiconSameSpec)) lexiconSameCard

/-- THE TIED CARD OF 'langdoclaw25.LexiconRight'. -/
def lexiconRightCard : Claim7 := { stood := { row := lexiconRightRow, standIns := [], harness := (true, "29699b048a19265788ffd0a87428770546cbaa15ed3dc5b9bdf3bed142d2f854"), looks := false }, kinds := [], alts := [], laidByText := true, laidKinds := [.data, .pinned], laidTests := true, laidLooks := .later }
def LexiconRightCardSaid : Prop := Claim7.holds Tryz.pinned (.plain (OpenSpec.ofChange lexiconRightSpec)) lexiconRightCard

/-- THE TIED CARD OF 'langdoclaw25.LexiconUndone'. -/
def lexiconUndoneCard : Claim7 := { stood := { row := lexiconUndoneRow, standIns := [], harness := (true, "29699b048a19265788ffd0a87428770546cbaa15ed3dc5b9bdf3bed142d2f854"), looks := false }, kinds := [], alts := [], laidByText := true, laidKinds := [.data, .pinned], laidTests := true, laidLooks := .later }
def LexiconUndoneCardSaid : Prop := Claim7.holds Tryz.pinned (.plain (OpenSpec.ofChange lexiconUndoneSpec)) lexiconUndoneCard

/-- THE TIED CARD OF 'langdoclaw25.LexiconHomonyms'. -/
def lexiconHomonymsCard : Claim7 := { stood := { row := lexiconHomonymsRow, standIns := [], harness := (true, "29699b048a19265788ffd0a87428770546cbaa15ed3dc5b9bdf3bed142d2f854"), looks := false }, kinds := [], alts := [], laidByText := true, laidKinds := [.data, .pinned], laidTests := true, laidLooks := .later }
def LexiconHomonymsCardSaid : Prop := Claim7.holds Tryz.pinned (.plain (OpenSpec.ofChange lexiconHomonymsSpec)) lexiconHomonymsCard

/-- THE SECOND FORM's CARD OF 'langdoclaw25.LexiconChecks'. -/
def lexiconChecksUptoCard : Claim7 := { stood := { row := lexiconChecksUptoRow, standIns := [], harness := (true, "29699b048a19265788ffd0a87428770546cbaa15ed3dc5b9bdf3bed142d2f854"), looks := false }, kinds := [], alts := [], laidByText := true, laidKinds := [.data, .pinned], laidTests := true, laidLooks := .later }
def LexiconChecksUptoCardSaid : Prop := Claim7.holds Tryz.pinned (.plain (OpenSpec.upto lexiconChecksSpec)) lexiconChecksUptoCard

/-- THE SECOND FORM's CARD OF 'langdoclaw25.LexiconGets'. -/
def lexiconGetsUptoCard : Claim7 := { stood := { row := lexiconGetsUptoRow, standIns := [], harness := (true, "29699b048a19265788ffd0a87428770546cbaa15ed3dc5b9bdf3bed142d2f854"), looks := false }, kinds := [], alts := [], laidByText := true, laidKinds := [.data, .pinned], laidTests := true, laidLooks := .later }
def LexiconGetsUptoCardSaid : Prop := Claim7.holds Tryz.pinned (.plain (OpenSpec.upto lexiconGetsSpec)) lexiconGetsUptoCard

/-- THE SECOND FORM's CARD OF 'langdoclaw25.LexiconFinds'. -/
def lexiconFindsUptoCard : Claim7 := { stood := { row := lexiconFindsUptoRow, standIns := [], harness := (true, "29699b048a19265788ffd0a87428770546cbaa15ed3dc5b9bdf3bed142d2f854"), looks := false }, kinds := [], alts := [], laidByText := true, laidKinds := [.data, .pinned], laidTests := true, laidLooks := .later }
def LexiconFindsUptoCardSaid : Prop := Claim7.holds Tryz.pinned (.plain (OpenSpec.upto lexiconFindsSpec)) lexiconFindsUptoCard

/-- THE SECOND FORM's CARD OF 'langdoclaw25.LexiconPuts'. -/
def lexiconPutsUptoCard : Claim7 := { stood := { row := lexiconPutsUptoRow, standIns := [], harness := (true, "29699b048a19265788ffd0a87428770546cbaa15ed3dc5b9bdf3bed142d2f854"), looks := false }, kinds := [], alts := [], laidByText := true, laidKinds := [.data, .pinned], laidTests := true, laidLooks := .later }
def LexiconPutsUptoCardSaid : Prop := Claim7.holds Tryz.pinned (.plain (OpenSpec.upto lexiconPutsSpec)) lexiconPutsUptoCard

/-- THE SECOND FORM's CARD OF 'langdoclaw25.LexiconDrops'. -/
def lexiconDropsUptoCard : Claim7 := { stood := { row := lexiconDropsUptoRow, standIns := [], harness := (true, "29699b048a19265788ffd0a87428770546cbaa15ed3dc5b9bdf3bed142d2f854"), looks := false }, kinds := [], alts := [], laidByText := true, laidKinds := [.data, .pinned], laidTests := true, laidLooks := .later }
def LexiconDropsUptoCardSaid : Prop := Claim7.holds Tryz.pinned (.plain (OpenSpec.upto lexiconDropsSpec)) lexiconDropsUptoCard

/-- THE SECOND FORM's CARD OF 'langdoclaw25.LexiconSame'. -/
def lexiconSameUptoCard : Claim7 := { stood := { row := lexiconSameUptoRow, standIns := [], harness := (true, "29699b048a19265788ffd0a87428770546cbaa15ed3dc5b9bdf3bed142d2f854"), looks := false }, kinds := [], alts := [], laidByText := true, laidKinds := [.data, .pinned], laidTests := true, laidLooks := .later }
def LexiconSameUptoCardSaid : Prop := Claim7.holds Tryz.pinned (.plain (OpenSpec.upto lexiconSameSpec)) lexiconSameUptoCard

/-- THE SECOND FORM's CARD OF 'langdoclaw25.LexiconRight'. -/
def lexiconRightUptoCard : Claim7 := { stood := { row := lexiconRightUptoRow, standIns := [], harness := (true, "29699b048a19265788ffd0a87428770546cbaa15ed3dc5b9bdf3bed142d2f854"), looks := false }, kinds := [], alts := [], laidByText := true, laidKinds := [.data, .pinned], laidTests := true, laidLooks := .later }
def LexiconRightUptoCardSaid : Prop := Claim7.holds Tryz.pinned (.plain (OpenSpec.upto lexiconRightSpec)) lexiconRightUptoCard

/-- THE SECOND FORM's CARD OF 'langdoclaw25.LexiconUndone'. -/
def lexiconUndoneUptoCard : Claim7 := { stood := { row := lexiconUndoneUptoRow, standIns := [], harness := (true, "29699b048a19265788ffd0a87428770546cbaa15ed3dc5b9bdf3bed142d2f854"), looks := false }, kinds := [], alts := [], laidByText := true, laidKinds := [.data, .pinned], laidTests := true, laidLooks := .later }
def LexiconUndoneUptoCardSaid : Prop := Claim7.holds Tryz.pinned (.plain (OpenSpec.upto lexiconUndoneSpec)) lexiconUndoneUptoCard

/-- THE SECOND FORM's CARD OF 'langdoclaw25.LexiconHomonyms'. -/
def lexiconHomonymsUptoCard : Claim7 := { stood := { row := lexiconHomonymsUptoRow, standIns := [], harness := (true, "29699b048a19265788ffd0a87428770546cbaa15ed3dc5b9bdf3bed142d2f854"), looks := false }, kinds := [], alts := [], laidByText := true, laidKinds := [.data, .pinned], laidTests := true, laidLooks := .later }
def LexiconHomonymsUptoCardSaid : Prop := Claim7.holds Tryz.pinned (.plain (OpenSpec.upto lexiconHomonymsSpec)) lexiconHomonymsUptoCard
end Rows
end Go.Proofs.YtdmmhemfnnbddaaGreatDoor
