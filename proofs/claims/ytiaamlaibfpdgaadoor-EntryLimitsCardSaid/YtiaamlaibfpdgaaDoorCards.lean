/-
  DERIVED. GIVEN WITH THE SEED: THE CARDS: each row of YtiaamlaibfpdgaaDoorRows.lean that lists a variable, with what it lists TIED to the program's text (the seventh form; the later family's looks); each row that meets fmt, with fmt's text TOLD by the authors' own Lean function (tested against real Go, not proved from fmt's source: count such statements apart). THE CARD IS WHAT COUNTS. Prove the row's statement (the work); the ties are given (YtiaamlaibfpdgaaDoorTie.lean); close each card by the builder's one call (the guide's Derived/Test/ToyasCard.lean, 'card_holds'). Laid BY PROGRAM, IN A SANDBOX (cutbox-door.mjs). By AI agents, Wed Nov 11 2026. No macro, syntax, notation, axiom, sorry.
-/
import Derived.Test.YtiaamlaibfpdgaaDoorRows
import GoSem.ClaimSeven
namespace Go.Proofs.YtiaamlaibfpdgaaDoor
namespace Rows

/-- THE TIED CARD OF 'langdoclaw24.EntryGlosses'. -/
def entryGlossesCard : Claim7 := { stood := { row := entryGlossesRow, standIns := [], harness := (true, "2ee85f1db8a53f7a988d197159f38c4a0f0616a9f5737d4074fe2e61be1dc649"), looks := false }, kinds := [], alts := [], laidByText := true, laidKinds := [.data, .pinned], laidTests := true, laidLooks := .later }
def EntryGlossesCardSaid : Prop := Claim7.holds Tryd.pinned (.plain (OpenSpec.ofChange entryGlossesSpec)) entryGlossesCard

/-- THE TIED CARD OF 'langdoclaw24.EntryLabels'. -/
def entryLabelsCard : Claim7 := { stood := { row := entryLabelsRow, standIns := [], harness := (true, "2ee85f1db8a53f7a988d197159f38c4a0f0616a9f5737d4074fe2e61be1dc649"), looks := false }, kinds := [], alts := [], laidByText := true, laidKinds := [.data, .pinned], laidTests := true, laidLooks := .later }
def EntryLabelsCardSaid : Prop := Claim7.holds Tryd.pinned (.plain (OpenSpec.ofChange entryLabelsSpec)) entryLabelsCard

/-- THE TIED CARD OF 'langdoclaw24.EntryChecks'. -/
def entryChecksCard : Claim7 := { stood := { row := entryChecksRow, standIns := [], harness := (true, "2ee85f1db8a53f7a988d197159f38c4a0f0616a9f5737d4074fe2e61be1dc649"), looks := false }, kinds := [], alts := [], laidByText := true, laidKinds := [.data, .pinned], laidTests := true, laidLooks := .later }
def EntryChecksCardSaid : Prop := Claim7.holds Tryd.pinned (.plain (OpenSpec.ofChange entryChecksSpec)) entryChecksCard

/-- THE TIED CARD OF 'langdoclaw24.EntryForms'. -/
def entryFormsCard : Claim7 := { stood := { row := entryFormsRow, standIns := [], harness := (true, "2ee85f1db8a53f7a988d197159f38c4a0f0616a9f5737d4074fe2e61be1dc649"), looks := false }, kinds := [], alts := [], laidByText := true, laidKinds := [.data, .pinned], laidTests := true, laidLooks := .later }
def EntryFormsCardSaid : Prop := Claim7.holds Tryd.pinned (.plain (OpenSpec.ofChange entryFormsSpec)) entryFormsCard

/-- THE TIED CARD OF 'langdoclaw24.EntryAdds'. -/
def entryAddsCard : Claim7 := { stood := { row := entryAddsRow, standIns := [], harness := (true, "2ee85f1db8a53f7a988d197159f38c4a0f0616a9f5737d4074fe2e61be1dc649"), looks := false }, kinds := [], alts := [], laidByText := true, laidKinds := [.data, .pinned], laidTests := true, laidLooks := .later }
def EntryAddsCardSaid : Prop := Claim7.holds Tryd.pinned (.plain (OpenSpec.ofChange entryAddsSpec)) entryAddsCard

/-- THE TIED CARD OF 'langdoclaw24.EntrySame'. -/
def entrySameCard : Claim7 := { stood := { row := entrySameRow, standIns := [], harness := (true, "2ee85f1db8a53f7a988d197159f38c4a0f0616a9f5737d4074fe2e61be1dc649"), looks := false }, kinds := [], alts := [], laidByText := true, laidKinds := [.data, .pinned], laidTests := true, laidLooks := .later }
def EntrySameCardSaid : Prop := Claim7.holds Tryd.pinned (.plain (OpenSpec.ofChange entrySameSpec)) entrySameCard

/-- THE TIED CARD OF 'langdoclaw24.EntryKeeps'. -/
def entryKeepsCard : Claim7 := { stood := { row := entryKeepsRow, standIns := [], harness := (true, "2ee85f1db8a53f7a988d197159f38c4a0f0616a9f5737d4074fe2e61be1dc649"), looks := false }, kinds := [], alts := [], laidByText := true, laidKinds := [.data, .pinned], laidTests := true, laidLooks := .later }
def EntryKeepsCardSaid : Prop := Claim7.holds Tryd.pinned (.plain (OpenSpec.ofChange entryKeepsSpec)) entryKeepsCard

/-- THE TIED CARD OF 'langdoclaw24.EntryBack'. -/
def entryBackCard : Claim7 := { stood := { row := entryBackRow, standIns := [], harness := (true, "2ee85f1db8a53f7a988d197159f38c4a0f0616a9f5737d4074fe2e61be1dc649"), looks := false }, kinds := [], alts := [], laidByText := true, laidKinds := [.data, .pinned], laidTests := true, laidLooks := .later }
def EntryBackCardSaid : Prop := Claim7.holds Tryd.pinned (.plain (OpenSpec.ofChange entryBackSpec)) entryBackCard

/-- THE TIED CARD OF 'langdoclaw24.EntryLimits'. -/
def entryLimitsCard : Claim7 := { stood := { row := entryLimitsRow, standIns := [], harness := (true, "2ee85f1db8a53f7a988d197159f38c4a0f0616a9f5737d4074fe2e61be1dc649"), looks := false }, kinds := [], alts := [], laidByText := true, laidKinds := [.data, .pinned], laidTests := true, laidLooks := .later }
def EntryLimitsCardSaid : Prop := Claim7.holds Tryd.pinned (.plain (OpenSpec.ofChange entryLimitsSpec)) entryLimitsCard

/-- THE SECOND FORM's CARD OF 'langdoclaw24.EntryGlosses'. -/
def entryGlossesUptoCard : Claim7 := { stood := { row := entryGlossesUptoRow, standIns := [], harness := (true, "2ee85f1db8a53f7a988d197159f38c4a0f0616a9f5737d4074fe2e61be1dc649"), looks := false }, kinds := [], alts := [], laidByText := true, laidKinds := [.data, .pinned], laidTests := true, laidLooks := .later }
def EntryGlossesUptoCardSaid : Prop := Claim7.holds Tryd.pinned (.plain (OpenSpec.upto entryGlossesSpec)) entryGlossesUptoCard

/-- THE SECOND FORM's CARD OF 'langdoclaw24.EntryLabels'. -/
def entryLabelsUptoCard : Claim7 := { stood := { row := entryLabelsUptoRow, standIns := [], harness := (true, "2ee85f1db8a53f7a988d197159f38c4a0f0616a9f5737d4074fe2e61be1dc649"), looks := false }, kinds := [], alts := [], laidByText := true, laidKinds := [.data, .pinned], laidTests := true, laidLooks := .later }
def EntryLabelsUptoCardSaid : Prop := Claim7.holds Tryd.pinned (.plain (OpenSpec.upto entryLabelsSpec)) entryLabelsUptoCard

/-- THE SECOND FORM's CARD OF 'langdoclaw24.EntryChecks'. -/
def entryChecksUptoCard : Claim7 := { stood := { row := entryChecksUptoRow, standIns := [], harness := (true, "2ee85f1db8a53f7a988d197159f38c4a0f0616a9f5737d4074fe2e61be1dc649"), looks := false }, kinds := [], alts := [], laidByText := true, laidKinds := [.data, .pinned], laidTests := true, laidLooks := .later }
def EntryChecksUptoCardSaid : Prop := Claim7.holds Tryd.pinned (.plain (OpenSpec.upto entryChecksSpec)) entryChecksUptoCard

/-- THE SECOND FORM's CARD OF 'langdoclaw24.EntryForms'. -/
def entryFormsUptoCard : Claim7 := { stood := { row := entryFormsUptoRow, standIns := [], harness := (true, "2ee85f1db8a53f7a988d197159f38c4a0f0616a9f5737d4074fe2e61be1dc649"), looks := false }, kinds := [], alts := [], laidByText := true, laidKinds := [.data, .pinned], laidTests := true, laidLooks := .later }
def EntryFormsUptoCardSaid : Prop := Claim7.holds Tryd.pinned (.plain (OpenSpec.upto entryFormsSpec)) entryFormsUptoCard

/-- THE SECOND FORM's CARD OF 'langdoclaw24.EntryAdds'. -/
def entryAddsUptoCard : Claim7 := { stood := { row := entryAddsUptoRow, standIns := [], harness := (true, "2ee85f1db8a53f7a988d197159f38c4a0f0616a9f5737d4074fe2e61be1dc649"), looks := false }, kinds := [], alts := [], laidByText := true, laidKinds := [.data, .pinned], laidTests := true, laidLooks := .later }
def EntryAddsUptoCardSaid : Prop := Claim7.holds Tryd.pinned (.plain (OpenSpec.upto entryAddsSpec)) entryAddsUptoCard

/-- THE SECOND FORM's CARD OF 'langdoclaw24.EntrySame'. -/
def entrySameUptoCard : Claim7 := { stood := { row := entrySameUptoRow, standIns := [], harness := (true, "2ee85f1db8a53f7a988d197159f38c4a0f0616a9f5737d4074fe2e61be1dc649"), looks := false }, kinds := [], alts := [], laidByText := true, laidKinds := [.data, .pinned], laidTests := true, laidLooks := .later }
def EntrySameUptoCardSaid : Prop := Claim7.holds Tryd.pinned (.plain (OpenSpec.upto entrySameSpec)) entrySameUptoCard

/-- THE SECOND FORM's CARD OF 'langdoclaw24.EntryKeeps'. -/
def entryKeepsUptoCard : Claim7 := { stood := { row := entryKeepsUptoRow, standIns := [], harness := (true, "2ee85f1db8a53f7a988d197159f38c4a0f0616a9f5737d4074fe2e61be1dc649"), looks := false }, kinds := [], alts := [], laidByText := true, laidKinds := [.data, .pinned], laidTests := true, laidLooks := .later }
def EntryKeepsUptoCardSaid : Prop := Claim7.holds Tryd.pinned (.plain (OpenSpec.upto entryKeepsSpec)) entryKeepsUptoCard

/-- THE SECOND FORM's CARD OF 'langdoclaw24.EntryBack'. -/
def entryBackUptoCard : Claim7 := { stood := { row := entryBackUptoRow, standIns := [], harness := (true, "2ee85f1db8a53f7a988d197159f38c4a0f0616a9f5737d4074fe2e61be1dc649"), looks := false }, kinds := [], alts := [], laidByText := true, laidKinds := [.data, .pinned], laidTests := true, laidLooks := .later }
def EntryBackUptoCardSaid : Prop := Claim7.holds Tryd.pinned (.plain (OpenSpec.upto entryBackSpec)) entryBackUptoCard

/-- THE SECOND FORM's CARD OF 'langdoclaw24.EntryLimits'. -/
def entryLimitsUptoCard : Claim7 := { stood := { row := entryLimitsUptoRow, standIns := [], harness := (true, "2ee85f1db8a53f7a988d197159f38c4a0f0616a9f5737d4074fe2e61be1dc649"), looks := false }, kinds := [], alts := [], laidByText := true, laidKinds := [.data, .pinned], laidTests := true, laidLooks := .later }
def EntryLimitsUptoCardSaid : Prop := Claim7.holds Tryd.pinned (.plain (OpenSpec.upto entryLimitsSpec)) entryLimitsUptoCard
end Rows
end Go.Proofs.YtiaamlaibfpdgaaDoor
