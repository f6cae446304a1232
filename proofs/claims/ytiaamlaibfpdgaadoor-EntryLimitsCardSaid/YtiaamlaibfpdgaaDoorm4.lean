/- The logic of data over the kit's walk, and contracts of the functions that the laws reach, each said by plain data; part 5 of 6. -/
import Derived.Test.YtiaamlaibfpdgaaDoorm3
set_option linter.all false
set_option linter.unusedVariables false
set_option linter.unusedSimpArgs false
open Nat renaming reduceEqDiff → jA, reduceAdd → jB, reduceMul → jC, reduceSub → jD, reduceLeDiff → jE, reduceBEq → jF
namespace Go.Proofs.YtiaamlaibfpdgaaDoor
abbrev kpm6 : List (Nat × Go.Dl.Mode) := [(0, .light), (1, .light), (2, .light), (3, .light), (4, .light), (5, .light), (6, .step), (7, .light)]
abbrev kpm7 : List (Nat × Go.Dl.Mode) := [(0, .light), (1, .light), (2, .light), (3, .light), (4, .light), (5, .light), (6, .light), (7, .step)]
abbrev kpm8 : List (Nat × Go.Dl.Mode) := [(0, .light), (1, .light), (2, .light), (3, .light), (4, .light), (5, .light), (6, .light), (7, .light), (8, .light), (9, .light), (10, .step)]
end Go.Proofs.YtiaamlaibfpdgaaDoor
/- Entries: forms, the reference's; Forms and Has. -/
namespace Go.Proofs.YtiaamlaibfpdgaaDoor
open Go.Dl
open Go.Dl renaming dw_seq → kA, dw_block → kB, dw_reg → kC, dw_skip → kD, dw_exit → kE, dw_ret → kF, dw_cond → kG, guardC_f → kH, guardC_t → kI, dw_drw → kJ, dw_weaken → kK, sub_kn → kL, sub_ml → kM
open Go.Dl.CallC renaming mk → kN, light → kO
open Go.Dl.LeL renaming of_eq → kP
attribute [local irreducible] DW DCalls ECalls wk IW

theorem dec_symm {α : Type} [DecidableEq α] (a b : α) : decide (a = b) = decide (b = a) := by rw [Bool.eq_iff_iff]; simp; exact eq_comm

set_option maxRecDepth 10000 in

set_option maxHeartbeats 8000000 in
theorem rWords_D (g : List Phon) (e : Ent) : DCalls Tryd.prog 44 [.agg (invRow g), .agg e.row] (dv (li (if ident e.id = false then 2 else formsE g e))) := by
  have hmax : maxLen = 9223372036854775807 := rfl
  refine dcalls_grant (p := OkE e) (by kernel_rfl) (fun w K h => ?_) fun he => ?_
  · obtain ⟨v, hv⟩ := h (.agg e.row) (by simp)
    exact okE_of hv
  have hW := rWord_D g e.form
  have hI := rIdent_D e.id
  simp only [invRow] at hW
  refine dcalls (N := 73) (rs := [.tmp 4]) (by kernel_rfl) Tryd.func44 rfl rfl rfl (by simp) ?_
  cases t0 : ident e.id
  · rw [t0] at hI
    (repeat' (first | refine kA ?_ | refine kB ?_ | ((first | (refine kC (N := 73) rfl (by kernel_rfl) ?_) | (apply kJ (id := 13) (N := 73) kpm6; kernel_rfl; rfl; kernel_rfl; (repeat (first | exact Picks.nil | (apply Picks.cons; rfl)))) | (apply kJ (id := 16) (N := 73) kpm7; kernel_rfl; rfl; kernel_rfl; (repeat (first | exact Picks.nil | (apply Picks.cons; rfl)))) | (apply kJ (id := 21) (N := 73) kpm8; kernel_rfl; rfl; kernel_rfl; (repeat (first | exact Picks.nil | (apply Picks.cons; rfl)))) | refine kD ?_ | refine kE ?_ | (refine kN (hI) (kP rfl) ?_) | (refine kO (hI) (kP rfl) ?_) | refine kF ?_); simp (decide := true) only [go_sem, reduceIte, reduceCtorEq, jA, jB, jC, jD, jE, jF, t0, Ent.row, invRow]) | (apply kG; (simp (decide := true) only [go_sem, reduceIte, reduceCtorEq, jA, jB, jC, jD, jE, jF, t0, Ent.row, invRow]; rfl); all_goals (intro hcnd; first | (exact absurd hcnd (by decide)) | skip)) | ((first | refine kH ?_ ?_ | refine kI ?_ ?_) <;> (intro hcnd; simp (decide := true) only [go_sem, reduceIte, reduceCtorEq, jA, jB, jC, jD, jE, jF, hcnd, t0, Ent.row, invRow]))))
  rw [t0] at hI
  rw [if_neg (by decide)]
  rcases Bool.eq_false_or_eq_true (wordE g e.form != 0) with t1 | t1
  · have n1 : wordE g e.form ≠ 0 := by simpa using t1
    (repeat' (first | refine kA ?_ | refine kB ?_ | ((first | (refine kC (N := 73) rfl (by kernel_rfl) ?_) | (apply kJ (id := 13) (N := 73) kpm6; kernel_rfl; rfl; kernel_rfl; (repeat (first | exact Picks.nil | (apply Picks.cons; rfl)))) | (apply kJ (id := 16) (N := 73) kpm7; kernel_rfl; rfl; kernel_rfl; (repeat (first | exact Picks.nil | (apply Picks.cons; rfl)))) | (apply kJ (id := 21) (N := 73) kpm8; kernel_rfl; rfl; kernel_rfl; (repeat (first | exact Picks.nil | (apply Picks.cons; rfl)))) | refine kD ?_ | refine kE ?_ | (refine kN (hI) (kP rfl) ?_) | (refine kO (hI) (kP rfl) ?_) | (refine kN (hW) (kP rfl) ?_) | (refine kO (hW) (kP rfl) ?_) | refine kF ?_); simp (decide := true) only [go_sem, reduceIte, reduceCtorEq, jA, jB, jC, jD, jE, jF, t1, Ent.row, invRow]) | (apply kG; (simp (decide := true) only [go_sem, reduceIte, reduceCtorEq, jA, jB, jC, jD, jE, jF, t1, Ent.row, invRow]; rfl); all_goals (intro hcnd; first | (exact absurd hcnd (by decide)) | skip)) | ((first | refine kH ?_ ?_ | refine kI ?_ ?_) <;> (intro hcnd; simp (decide := true) only [go_sem, reduceIte, reduceCtorEq, jA, jB, jC, jD, jE, jF, hcnd, t1, Ent.row, invRow]))))
    rw [formsE, if_pos n1]
  have n1 : ¬ wordE g e.form ≠ 0 := by simpa using t1
  rcases Bool.eq_false_or_eq_true (decide (e.cls < 1)) with t2 | t2
  · have n2 := of_decide_eq_true t2
    (repeat' (first | refine kA ?_ | refine kB ?_ | ((first | (refine kC (N := 73) rfl (by kernel_rfl) ?_) | (apply kJ (id := 13) (N := 73) kpm6; kernel_rfl; rfl; kernel_rfl; (repeat (first | exact Picks.nil | (apply Picks.cons; rfl)))) | (apply kJ (id := 16) (N := 73) kpm7; kernel_rfl; rfl; kernel_rfl; (repeat (first | exact Picks.nil | (apply Picks.cons; rfl)))) | (apply kJ (id := 21) (N := 73) kpm8; kernel_rfl; rfl; kernel_rfl; (repeat (first | exact Picks.nil | (apply Picks.cons; rfl)))) | refine kD ?_ | refine kE ?_ | (refine kN (hI) (kP rfl) ?_) | (refine kO (hI) (kP rfl) ?_) | (refine kN (hW) (kP rfl) ?_) | (refine kO (hW) (kP rfl) ?_) | refine kF ?_); simp (decide := true) only [go_sem, reduceIte, reduceCtorEq, jA, jB, jC, jD, jE, jF, t1, t2, Ent.row, invRow]) | (apply kG; (simp (decide := true) only [go_sem, reduceIte, reduceCtorEq, jA, jB, jC, jD, jE, jF, t1, t2, Ent.row, invRow]; rfl); all_goals (intro hcnd; first | (exact absurd hcnd (by decide)) | skip)) | ((first | refine kH ?_ ?_ | refine kI ?_ ?_) <;> (intro hcnd; simp (decide := true) only [go_sem, reduceIte, reduceCtorEq, jA, jB, jC, jD, jE, jF, hcnd, t1, t2, Ent.row, invRow]))))
    rw [formsE, if_neg n1, if_pos (.inl n2)]
  have n2 := of_decide_eq_false t2
  rcases Bool.eq_false_or_eq_true (decide ((20 : Int) < e.cls)) with t3 | t3
  · have n3 := of_decide_eq_true t3
    (repeat' (first | refine kA ?_ | refine kB ?_ | ((first | (refine kC (N := 73) rfl (by kernel_rfl) ?_) | (apply kJ (id := 13) (N := 73) kpm6; kernel_rfl; rfl; kernel_rfl; (repeat (first | exact Picks.nil | (apply Picks.cons; rfl)))) | (apply kJ (id := 16) (N := 73) kpm7; kernel_rfl; rfl; kernel_rfl; (repeat (first | exact Picks.nil | (apply Picks.cons; rfl)))) | (apply kJ (id := 21) (N := 73) kpm8; kernel_rfl; rfl; kernel_rfl; (repeat (first | exact Picks.nil | (apply Picks.cons; rfl)))) | refine kD ?_ | refine kE ?_ | (refine kN (hI) (kP rfl) ?_) | (refine kO (hI) (kP rfl) ?_) | (refine kN (hW) (kP rfl) ?_) | (refine kO (hW) (kP rfl) ?_) | refine kF ?_); simp (decide := true) only [go_sem, reduceIte, reduceCtorEq, jA, jB, jC, jD, jE, jF, t1, t2, t3, Ent.row, invRow]) | (apply kG; (simp (decide := true) only [go_sem, reduceIte, reduceCtorEq, jA, jB, jC, jD, jE, jF, t1, t2, t3, Ent.row, invRow]; rfl); all_goals (intro hcnd; first | (exact absurd hcnd (by decide)) | skip)) | ((first | refine kH ?_ ?_ | refine kI ?_ ?_) <;> (intro hcnd; simp (decide := true) only [go_sem, reduceIte, reduceCtorEq, jA, jB, jC, jD, jE, jF, hcnd, t1, t2, t3, Ent.row, invRow]))))
    rw [formsE, if_neg n1, if_pos (.inr n3)]
  have n3 := of_decide_eq_false t3
  rcases Bool.eq_false_or_eq_true (decide ((3 : Int) < (e.alts.length : Int))) with t4 | t4
  · have n4 : 3 < e.alts.length := by have := of_decide_eq_true t4; omega
    (repeat' (first | refine kA ?_ | refine kB ?_ | ((first | (refine kC (N := 73) rfl (by kernel_rfl) ?_) | (apply kJ (id := 13) (N := 73) kpm6; kernel_rfl; rfl; kernel_rfl; (repeat (first | exact Picks.nil | (apply Picks.cons; rfl)))) | (apply kJ (id := 16) (N := 73) kpm7; kernel_rfl; rfl; kernel_rfl; (repeat (first | exact Picks.nil | (apply Picks.cons; rfl)))) | (apply kJ (id := 21) (N := 73) kpm8; kernel_rfl; rfl; kernel_rfl; (repeat (first | exact Picks.nil | (apply Picks.cons; rfl)))) | refine kD ?_ | refine kE ?_ | (refine kN (hI) (kP rfl) ?_) | (refine kO (hI) (kP rfl) ?_) | (refine kN (hW) (kP rfl) ?_) | (refine kO (hW) (kP rfl) ?_) | refine kF ?_); simp (decide := true) only [go_sem, reduceIte, reduceCtorEq, jA, jB, jC, jD, jE, jF, t1, t2, t3, t4, Ent.row, invRow]) | (apply kG; (simp (decide := true) only [go_sem, reduceIte, reduceCtorEq, jA, jB, jC, jD, jE, jF, t1, t2, t3, t4, Ent.row, invRow]; rfl); all_goals (intro hcnd; first | (exact absurd hcnd (by decide)) | skip)) | ((first | refine kH ?_ ?_ | refine kI ?_ ?_) <;> (intro hcnd; simp (decide := true) only [go_sem, reduceIte, reduceCtorEq, jA, jB, jC, jD, jE, jF, hcnd, t1, t2, t3, t4, Ent.row, invRow]))))
    rw [formsE, if_neg n1, if_neg (by omega), if_pos n4]
  have n4 : ¬ 3 < e.alts.length := by have := of_decide_eq_false t4; omega
  (repeat' (first | refine kA ?_ | refine kB ?_ | ((first | (refine kC (N := 73) rfl (by kernel_rfl) ?_) | (apply kJ (id := 13) (N := 73) kpm6; kernel_rfl; rfl; kernel_rfl; (repeat (first | exact Picks.nil | (apply Picks.cons; rfl)))) | (apply kJ (id := 16) (N := 73) kpm7; kernel_rfl; rfl; kernel_rfl; (repeat (first | exact Picks.nil | (apply Picks.cons; rfl)))) | (apply kJ (id := 21) (N := 73) kpm8; kernel_rfl; rfl; kernel_rfl; (repeat (first | exact Picks.nil | (apply Picks.cons; rfl)))) | refine kD ?_ | refine kE ?_ | (refine kN (hI) (kP rfl) ?_) | (refine kO (hI) (kP rfl) ?_) | (refine kN (hW) (kP rfl) ?_) | (refine kO (hW) (kP rfl) ?_)); simp (decide := true) only [go_sem, reduceIte, reduceCtorEq, jA, jB, jC, jD, jE, jF, t1, t2, t3, t4, Ent.row, invRow]) | (apply kG; (simp (decide := true) only [go_sem, reduceIte, reduceCtorEq, jA, jB, jC, jD, jE, jF, t1, t2, t3, t4, Ent.row, invRow]; rfl); all_goals (intro hcnd; first | (exact absurd hcnd (by decide)) | skip)) | ((first | refine kH ?_ ?_ | refine kI ?_ ?_) <;> (intro hcnd; simp (decide := true) only [go_sem, reduceIte, reduceCtorEq, jA, jB, jC, jD, jE, jF, hcnd, t1, t2, t3, t4, Ent.row, invRow]))))
  refine dw_rngI e.alts (fun k => kn 73 [(2, .one (.bx 2 1 0 0)), (3, .one (.bx 3 8 0 0)), (6, dv (li k))] (ml [(2, [invRow g]), (3, [e.row])])) (fun k => altsE g (e.form :: e.alts.take k) (e.alts.drop k) = formsE g e) (by omega) (kM rfl (by simp (decide := true) only [go_sem, reduceIte, reduceCtorEq, jA, jB, jC, jD, jE, jF]) (by simp (decide := true) only [go_sem, reduceIte, reduceCtorEq, jA, jB, jC, jD, jE, jF, Ent.row, invRow])) (by rw [formsE, if_neg n1, if_neg (by omega), if_neg n4]; simp) ?_ ?_
  · intro k a ha hk hm htk hlt hw hi
    rw [drop_at ha, altsE] at hi
    have hWa := rWord_D g a
    simp only [invRow] at hWa
    rcases Bool.eq_false_or_eq_true (wordE g a != 0) with t5 | t5
    · have n5 : wordE g a ≠ 0 := by simpa using t5
      rw [if_pos n5] at hi
      (repeat' (first | refine kA ?_ | refine kB ?_ | ((first | (refine kC (N := 73) rfl (by kernel_rfl) ?_) | (apply kJ (id := 13) (N := 73) kpm6; kernel_rfl; rfl; kernel_rfl; (repeat (first | exact Picks.nil | (apply Picks.cons; rfl)))) | (apply kJ (id := 16) (N := 73) kpm7; kernel_rfl; rfl; kernel_rfl; (repeat (first | exact Picks.nil | (apply Picks.cons; rfl)))) | (apply kJ (id := 21) (N := 73) kpm8; kernel_rfl; rfl; kernel_rfl; (repeat (first | exact Picks.nil | (apply Picks.cons; rfl)))) | refine kD ?_ | refine kE ?_ | (refine kN (hWa) (kP rfl) ?_) | (refine kO (hWa) (kP rfl) ?_) | refine kF ?_); simp (decide := true) only [go_sem, reduceIte, reduceCtorEq, jA, jB, jC, jD, jE, jF, hlt, hw, ha, t5, Ent.row, invRow, altC]) | (apply kG; (simp (decide := true) only [go_sem, reduceIte, reduceCtorEq, jA, jB, jC, jD, jE, jF, hlt, hw, ha, t5, Ent.row, invRow, altC]; rfl); all_goals (intro hcnd; first | (exact absurd hcnd (by decide)) | skip)) | ((first | refine kH ?_ ?_ | refine kI ?_ ?_) <;> (intro hcnd; simp (decide := true) only [go_sem, reduceIte, reduceCtorEq, jA, jB, jC, jD, jE, jF, hcnd, hlt, hw, ha, t5, Ent.row, invRow, altC]))))
      rw [hi]
    have n5 : ¬ wordE g a ≠ 0 := by simpa using t5
    rw [if_neg n5] at hi
    have hal : a.length ≤ maxLen := he.alt a hm
    have hS := sameI_D a e.form hal
    cases t6 : decide (a = e.form)
    rotate_left
    · have hh : hasA (e.form :: e.alts.take k) a = true := by rw [hasA, List.any_cons, dec_symm, t6]; rfl
      rw [hh, if_pos rfl] at hi
      rw [t6] at hS
      (repeat' (first | refine kA ?_ | refine kB ?_ | ((first | (refine kC (N := 73) rfl (by kernel_rfl) ?_) | (apply kJ (id := 13) (N := 73) kpm6; kernel_rfl; rfl; kernel_rfl; (repeat (first | exact Picks.nil | (apply Picks.cons; rfl)))) | (apply kJ (id := 16) (N := 73) kpm7; kernel_rfl; rfl; kernel_rfl; (repeat (first | exact Picks.nil | (apply Picks.cons; rfl)))) | (apply kJ (id := 21) (N := 73) kpm8; kernel_rfl; rfl; kernel_rfl; (repeat (first | exact Picks.nil | (apply Picks.cons; rfl)))) | refine kD ?_ | refine kE ?_ | (refine kN (hWa) (kP rfl) ?_) | (refine kO (hWa) (kP rfl) ?_) | (refine kN (hS) (kP rfl) ?_) | (refine kO (hS) (kP rfl) ?_) | refine kF ?_); simp (decide := true) only [go_sem, reduceIte, reduceCtorEq, jA, jB, jC, jD, jE, jF, hlt, hw, ha, t5, Ent.row, invRow, altC]) | (apply kG; (simp (decide := true) only [go_sem, reduceIte, reduceCtorEq, jA, jB, jC, jD, jE, jF, hlt, hw, ha, t5, Ent.row, invRow, altC]; rfl); all_goals (intro hcnd; first | (exact absurd hcnd (by decide)) | skip)) | ((first | refine kH ?_ ?_ | refine kI ?_ ?_) <;> (intro hcnd; simp (decide := true) only [go_sem, reduceIte, reduceCtorEq, jA, jB, jC, jD, jE, jF, hcnd, hlt, hw, ha, t5, Ent.row, invRow, altC]))))
      rw [hi]
    rw [t6] at hS
    have hkl : (e.alts.take k).length = k := by rw [List.length_take]; omega
    (repeat' (first | refine kA ?_ | refine kB ?_ | ((first | (refine kC (N := 73) rfl (by kernel_rfl) ?_) | (apply kJ (id := 13) (N := 73) kpm6; kernel_rfl; rfl; kernel_rfl; (repeat (first | exact Picks.nil | (apply Picks.cons; rfl)))) | (apply kJ (id := 16) (N := 73) kpm7; kernel_rfl; rfl; kernel_rfl; (repeat (first | exact Picks.nil | (apply Picks.cons; rfl)))) | (apply kJ (id := 21) (N := 73) kpm8; kernel_rfl; rfl; kernel_rfl; (repeat (first | exact Picks.nil | (apply Picks.cons; rfl)))) | refine kD ?_ | refine kE ?_ | (refine kN (hWa) (kP rfl) ?_) | (refine kO (hWa) (kP rfl) ?_) | (refine kN (hS) (kP rfl) ?_) | (refine kO (hS) (kP rfl) ?_)); simp (decide := true) only [go_sem, reduceIte, reduceCtorEq, jA, jB, jC, jD, jE, jF, hlt, hw, ha, t5, Ent.row, invRow, altC]) | (apply kG; (simp (decide := true) only [go_sem, reduceIte, reduceCtorEq, jA, jB, jC, jD, jE, jF, hlt, hw, ha, t5, Ent.row, invRow, altC]; rfl); all_goals (intro hcnd; first | (exact absurd hcnd (by decide)) | skip)) | ((first | refine kH ?_ ?_ | refine kI ?_ ?_) <;> (intro hcnd; simp (decide := true) only [go_sem, reduceIte, reduceCtorEq, jA, jB, jC, jD, jE, jF, hcnd, hlt, hw, ha, t5, Ent.row, invRow, altC]))))
    refine dw_rngI (e.alts.take k) (fun j => kn 73 [(2, .one (.bx 2 1 0 0)), (3, .one (.bx 3 8 0 0)), (6, dv (li k)), (8, dv (li j))] (ml [(2, [invRow g]), (3, [e.row])])) (fun j => ∀ b ∈ (e.alts.take k).take j, decide (b = a) = false) (by omega) (kM rfl (by simp (decide := true) only [go_sem, reduceIte, reduceCtorEq, jA, jB, jC, jD, jE, jF]) (by simp (decide := true) only [go_sem, reduceIte, reduceCtorEq, jA, jB, jC, jD, jE, jF, Ent.row, invRow])) (by simp) ?_ ?_
    · intro j b hb hjk hjm hjt hjlt hjw hji
      rw [hkl] at hjlt hjk
      have hgb : e.alts[j]? = some b := by rw [List.getElem?_take, if_pos hjk] at hb; exact hb
      have hS2 := sameI_D a b hal
      cases t7 : decide (a = b)
      · rw [t7] at hS2
        (repeat' (first | refine kA ?_ | refine kB ?_ | ((first | (refine kC (N := 73) rfl (by kernel_rfl) ?_) | (apply kJ (id := 13) (N := 73) kpm6; kernel_rfl; rfl; kernel_rfl; (repeat (first | exact Picks.nil | (apply Picks.cons; rfl)))) | (apply kJ (id := 16) (N := 73) kpm7; kernel_rfl; rfl; kernel_rfl; (repeat (first | exact Picks.nil | (apply Picks.cons; rfl)))) | (apply kJ (id := 21) (N := 73) kpm8; kernel_rfl; rfl; kernel_rfl; (repeat (first | exact Picks.nil | (apply Picks.cons; rfl)))) | refine kD ?_ | refine kE ?_ | (refine kN (hS2) (kP rfl) ?_) | (refine kO (hS2) (kP rfl) ?_) | refine kF ?_); simp (decide := true) only [go_sem, reduceIte, reduceCtorEq, jA, jB, jC, jD, jE, jF, hjlt, hjw, ha, hgb, Ent.row, invRow, altC]) | (apply kG; (simp (decide := true) only [go_sem, reduceIte, reduceCtorEq, jA, jB, jC, jD, jE, jF, hjlt, hjw, ha, hgb, Ent.row, invRow, altC]; rfl); all_goals (intro hcnd; first | (exact absurd hcnd (by decide)) | skip)) | ((first | refine kH ?_ ?_ | refine kI ?_ ?_) <;> (intro hcnd; simp (decide := true) only [go_sem, reduceIte, reduceCtorEq, jA, jB, jC, jD, jE, jF, hcnd, hjlt, hjw, ha, hgb, Ent.row, invRow, altC]))))
        exact ⟨forall_snoc hjt hji (by rw [dec_symm]; exact t7), kM rfl (by simp (decide := true) only [go_sem, reduceIte, reduceCtorEq, jA, jB, jC, jD, jE, jF]) (by simp (decide := true) only [go_sem, reduceIte, reduceCtorEq, jA, jB, jC, jD, jE, jF, Ent.row, invRow])⟩
      · have hh : hasA (e.form :: e.alts.take k) a = true := by
          rw [hasA, List.any_cons, Bool.or_eq_true]
          exact .inr (any_at hb (by rw [dec_symm]; exact t7))
        rw [hh, if_pos rfl] at hi
        rw [t7] at hS2
        (repeat' (first | refine kA ?_ | refine kB ?_ | ((first | (refine kC (N := 73) rfl (by kernel_rfl) ?_) | (apply kJ (id := 13) (N := 73) kpm6; kernel_rfl; rfl; kernel_rfl; (repeat (first | exact Picks.nil | (apply Picks.cons; rfl)))) | (apply kJ (id := 16) (N := 73) kpm7; kernel_rfl; rfl; kernel_rfl; (repeat (first | exact Picks.nil | (apply Picks.cons; rfl)))) | (apply kJ (id := 21) (N := 73) kpm8; kernel_rfl; rfl; kernel_rfl; (repeat (first | exact Picks.nil | (apply Picks.cons; rfl)))) | refine kD ?_ | refine kE ?_ | (refine kN (hS2) (kP rfl) ?_) | (refine kO (hS2) (kP rfl) ?_) | refine kF ?_); simp (decide := true) only [go_sem, reduceIte, reduceCtorEq, jA, jB, jC, jD, jE, jF, hjlt, hjw, ha, hgb, Ent.row, invRow, altC]) | (apply kG; (simp (decide := true) only [go_sem, reduceIte, reduceCtorEq, jA, jB, jC, jD, jE, jF, hjlt, hjw, ha, hgb, Ent.row, invRow, altC]; rfl); all_goals (intro hcnd; first | (exact absurd hcnd (by decide)) | skip)) | ((first | refine kH ?_ ?_ | refine kI ?_ ?_) <;> (intro hcnd; simp (decide := true) only [go_sem, reduceIte, reduceCtorEq, jA, jB, jC, jD, jE, jF, hcnd, hjlt, hjw, ha, hgb, Ent.row, invRow, altC]))))
        rw [hi]
    · intro hjlt hji
      rw [hkl] at hjlt ⊢
      have hh : hasA (e.form :: e.alts.take k) a = false := by
        rw [hasA, List.any_cons, dec_symm, t6, Bool.false_or]
        exact any_take_no hji
      rw [hh, if_neg (by decide)] at hi
      (repeat' (first | refine kA ?_ | refine kB ?_ | ((first | (refine kC (N := 73) rfl (by kernel_rfl) ?_) | (apply kJ (id := 13) (N := 73) kpm6; kernel_rfl; rfl; kernel_rfl; (repeat (first | exact Picks.nil | (apply Picks.cons; rfl)))) | (apply kJ (id := 16) (N := 73) kpm7; kernel_rfl; rfl; kernel_rfl; (repeat (first | exact Picks.nil | (apply Picks.cons; rfl)))) | (apply kJ (id := 21) (N := 73) kpm8; kernel_rfl; rfl; kernel_rfl; (repeat (first | exact Picks.nil | (apply Picks.cons; rfl)))) | refine kD ?_ | refine kE ?_ | refine kF ?_); simp (decide := true) only [go_sem, reduceIte, reduceCtorEq, jA, jB, jC, jD, jE, jF, hjlt, hw, Ent.row, invRow]) | (apply kG; (simp (decide := true) only [go_sem, reduceIte, reduceCtorEq, jA, jB, jC, jD, jE, jF, hjlt, hw, Ent.row, invRow]; rfl); all_goals (intro hcnd; first | (exact absurd hcnd (by decide)) | skip)) | ((first | refine kH ?_ ?_ | refine kI ?_ ?_) <;> (intro hcnd; simp (decide := true) only [go_sem, reduceIte, reduceCtorEq, jA, jB, jC, jD, jE, jF, hcnd, hjlt, hw, Ent.row, invRow]))))
      exact ⟨by rw [htk, ← List.cons_append]; exact hi, kM rfl (by simp (decide := true) only [go_sem, reduceIte, reduceCtorEq, jA, jB, jC, jD, jE, jF]) (by simp (decide := true) only [go_sem, reduceIte, reduceCtorEq, jA, jB, jC, jD, jE, jF, Ent.row, invRow])⟩
  · intro hlt hi
    (repeat' (first | refine kA ?_ | refine kB ?_ | ((first | (refine kC (N := 73) rfl (by kernel_rfl) ?_) | (apply kJ (id := 13) (N := 73) kpm6; kernel_rfl; rfl; kernel_rfl; (repeat (first | exact Picks.nil | (apply Picks.cons; rfl)))) | (apply kJ (id := 16) (N := 73) kpm7; kernel_rfl; rfl; kernel_rfl; (repeat (first | exact Picks.nil | (apply Picks.cons; rfl)))) | (apply kJ (id := 21) (N := 73) kpm8; kernel_rfl; rfl; kernel_rfl; (repeat (first | exact Picks.nil | (apply Picks.cons; rfl)))) | refine kD ?_ | refine kE ?_ | refine kF ?_); simp (decide := true) only [go_sem, reduceIte, reduceCtorEq, jA, jB, jC, jD, jE, jF, hlt, Ent.row, invRow]) | (apply kG; (simp (decide := true) only [go_sem, reduceIte, reduceCtorEq, jA, jB, jC, jD, jE, jF, hlt, Ent.row, invRow]; rfl); all_goals (intro hcnd; first | (exact absurd hcnd (by decide)) | skip)) | ((first | refine kH ?_ ?_ | refine kI ?_ ?_) <;> (intro hcnd; simp (decide := true) only [go_sem, reduceIte, reduceCtorEq, jA, jB, jC, jD, jE, jF, hcnd, hlt, Ent.row, invRow]))))
    rw [← hi]; simp [altsE]

def formsL (e : Ent) : List (List Int) := e.form :: e.alts

set_option maxRecDepth 10000 in

theorem formsL_D (e : Ent) (he : e.alts.length ≤ 1048576) : DCalls Tryd.prog 21 [.agg e.row] (dv (.sl 1 ((formsL e).map altC))) := by
  have hroom : ((1 + e.alts.length) * 24 ≤ 140737488355328) = True := eq_true (by omega)
  refine dcalls (N := 9) (rs := [.tmp 2]) (by kernel_rfl) Tryd.func21 rfl rfl rfl (by simp) ?_
  (repeat' (first | refine kA ?_ | refine kB ?_ | ((first | (refine kC (N := 9) rfl (by kernel_rfl) ?_) | refine kD ?_ | refine kE ?_); simp (decide := true) only [go_sem, reduceIte, reduceCtorEq, jA, jB, jC, jD, jE, jF, Ent.row, hroom]) | (apply kG; (simp (decide := true) only [go_sem, reduceIte, reduceCtorEq, jA, jB, jC, jD, jE, jF, Ent.row, hroom]; rfl); all_goals (intro hcnd; first | (exact absurd hcnd (by decide)) | skip))))
  refine dw_slot 2 (dv (.sl 1 ((formsL e).map altC))) (by simp (decide := true) only [go_sem, reduceIte, reduceCtorEq, jA, jB, jC, jD, jE, jF, formsL, List.map_cons]) ?_
  refine kF ?_; simp (decide := true) only [go_sem, reduceIte, reduceCtorEq, jA, jB, jC, jD, jE, jF]

set_option maxRecDepth 10000 in
theorem rFormsL_D (e : Ent) (he : e.alts.length ≤ 1048576) : DCalls Tryd.prog 22 [.agg e.row] (dv (.sl 1 ((formsL e).map altC))) := by
  have hroom : ((1 + e.alts.length) * 24 ≤ 140737488355328) = True := eq_true (by omega)
  refine dcalls (N := 9) (rs := [.tmp 2]) (by kernel_rfl) Tryd.func22 rfl rfl rfl (by simp) ?_
  (repeat' (first | refine kA ?_ | refine kB ?_ | ((first | (refine kC (N := 9) rfl (by kernel_rfl) ?_) | refine kD ?_ | refine kE ?_); simp (decide := true) only [go_sem, reduceIte, reduceCtorEq, jA, jB, jC, jD, jE, jF, Ent.row, hroom]) | (apply kG; (simp (decide := true) only [go_sem, reduceIte, reduceCtorEq, jA, jB, jC, jD, jE, jF, Ent.row, hroom]; rfl); all_goals (intro hcnd; first | (exact absurd hcnd (by decide)) | skip))))
  refine dw_slot 2 (dv (.sl 1 ((formsL e).map altC))) (by simp (decide := true) only [go_sem, reduceIte, reduceCtorEq, jA, jB, jC, jD, jE, jF, formsL, List.map_cons]) ?_
  refine kF ?_; simp (decide := true) only [go_sem, reduceIte, reduceCtorEq, jA, jB, jC, jD, jE, jF]

structure MidF (e : Ent) : Prop where
  alts : e.alts.length ≤ 1048576
  all : ∀ a ∈ formsL e, a.length ≤ 1048576

set_option maxRecDepth 10000 in

set_option maxHeartbeats 2000000 in
theorem has_D (e : Ent) (a : List Int) (he : MidF e) : DCalls Tryd.prog 23 [.agg e.row, dv (.sl 1 (ints a))] (dv (lb (hasA (formsL e) a))) := by
  have hmax : maxLen = 9223372036854775807 := rfl
  have hF := formsL_D e he.alts
  have hl : (formsL e).length ≤ maxLen := by have := he.alts; simp [formsL]; omega
  have hx : ∀ b ∈ formsL e, b.length ≤ maxLen := fun b hb => by have := he.all b hb; omega
  simp only [Ent.row] at hF
  refine dcalls (N := 9) (rs := [.tmp 4]) (by kernel_rfl) Tryd.func23 rfl rfl rfl (by simp) ?_
  (repeat' (first | refine kA ?_ | refine kB ?_ | ((first | (refine kC (N := 9) rfl (by kernel_rfl) ?_) | refine kD ?_ | refine kE ?_ | (refine kN (hF) (kP rfl) ?_) | (refine kO (hF) (kP rfl) ?_)); simp (decide := true) only [go_sem, reduceIte, reduceCtorEq, jA, jB, jC, jD, jE, jF, Ent.row]) | (apply kG; (simp (decide := true) only [go_sem, reduceIte, reduceCtorEq, jA, jB, jC, jD, jE, jF, Ent.row]; rfl); all_goals (intro hcnd; first | (exact absurd hcnd (by decide)) | skip))))
  refine CallC.frz 3 [.sl 1 (ints a)] (by simp) (by simp (decide := true) only [go_sem, reduceIte, reduceCtorEq, jA, jB, jC, jD, jE, jF]) ?_
  simp (decide := true) only [go_sem, reduceIte, reduceCtorEq, jA, jB, jC, jD, jE, jF]
  refine kN (conA_D _ a (has1_D a) (formsL e) hl hx) (kP rfl) ?_
  simp (decide := true) only [go_sem, reduceIte, reduceCtorEq, jA, jB, jC, jD, jE, jF]
  (repeat' (first | refine kA ?_ | refine kB ?_ | ((first | (refine kC (N := 9) rfl (by kernel_rfl) ?_) | refine kD ?_ | refine kE ?_ | refine kF ?_); simp (decide := true) only [go_sem, reduceIte, reduceCtorEq, jA, jB, jC, jD, jE, jF]) | (apply kG; (simp (decide := true) only [go_sem, reduceIte, reduceCtorEq, jA, jB, jC, jD, jE, jF]; rfl); all_goals (intro hcnd; first | (exact absurd hcnd (by decide)) | skip))))

set_option maxRecDepth 10000 in

set_option maxHeartbeats 2000000 in
theorem rHas_D (e : Ent) (a : List Int) (he : MidF e) : DCalls Tryd.prog 24 [.agg e.row, dv (.sl 1 (ints a))] (dv (lb (hasA (formsL e) a))) := by
  have hmax : maxLen = 9223372036854775807 := rfl
  have hF := rFormsL_D e he.alts
  have hl : (formsL e).length ≤ maxLen := by have := he.alts; simp [formsL]; omega
  simp only [Ent.row] at hF
  refine dcalls (N := 21) (rs := [.tmp 4]) (by kernel_rfl) Tryd.func24 rfl rfl rfl (by simp) ?_
  (repeat' (first | refine kA ?_ | refine kB ?_ | ((first | (refine kC (N := 21) rfl (by kernel_rfl) ?_) | refine kD ?_ | refine kE ?_ | (refine kN (hF) (kP rfl) ?_) | (refine kO (hF) (kP rfl) ?_)); simp (decide := true) only [go_sem, reduceIte, reduceCtorEq, jA, jB, jC, jD, jE, jF, Ent.row]) | (apply kG; (simp (decide := true) only [go_sem, reduceIte, reduceCtorEq, jA, jB, jC, jD, jE, jF, Ent.row]; rfl); all_goals (intro hcnd; first | (exact absurd hcnd (by decide)) | skip))))
  refine dw_rngI (formsL e) (fun k => kn 21 [(1, dv (.sl 1 (ints a))), (5, dv (.sl 1 ((formsL e).map altC))), (6, dv (li k))] noMem) (fun k => ∀ b ∈ (formsL e).take k, decide (b = a) = false) (by omega) (kL rfl (by simp (decide := true) only [go_sem, reduceIte, reduceCtorEq, jA, jB, jC, jD, jE, jF]) (by simp [noMem])) (by simp) ?_ ?_
  · intro k b hb hk hm htk hlt hw hi
    have hS := sameI_D b a (by have := he.all b hm; omega)
    cases t1 : decide (b = a)
    · rw [t1] at hS
      (repeat' (first | refine kA ?_ | refine kB ?_ | ((first | (refine kC (N := 21) rfl (by kernel_rfl) ?_) | refine kD ?_ | refine kE ?_ | (refine kN (hS) (kP rfl) ?_) | (refine kO (hS) (kP rfl) ?_) | refine kF ?_); simp (decide := true) only [go_sem, reduceIte, reduceCtorEq, jA, jB, jC, jD, jE, jF, hlt, hw, hb, altC]) | (apply kG; (simp (decide := true) only [go_sem, reduceIte, reduceCtorEq, jA, jB, jC, jD, jE, jF, hlt, hw, hb, altC]; rfl); all_goals (intro hcnd; first | (exact absurd hcnd (by decide)) | skip))))
      exact ⟨forall_snoc htk hi t1, kL rfl (by simp (decide := true) only [go_sem, reduceIte, reduceCtorEq, jA, jB, jC, jD, jE, jF]) (by simp [noMem])⟩
    · rw [t1] at hS
      (repeat' (first | refine kA ?_ | refine kB ?_ | ((first | (refine kC (N := 21) rfl (by kernel_rfl) ?_) | refine kD ?_ | refine kE ?_ | (refine kN (hS) (kP rfl) ?_) | (refine kO (hS) (kP rfl) ?_) | refine kF ?_); simp (decide := true) only [go_sem, reduceIte, reduceCtorEq, jA, jB, jC, jD, jE, jF, hlt, hw, hb, altC]) | (apply kG; (simp (decide := true) only [go_sem, reduceIte, reduceCtorEq, jA, jB, jC, jD, jE, jF, hlt, hw, hb, altC]; rfl); all_goals (intro hcnd; first | (exact absurd hcnd (by decide)) | skip))))
      rw [hasA, any_at hb t1]
  · intro hlt hi
    (repeat' (first | refine kA ?_ | refine kB ?_ | ((first | (refine kC (N := 21) rfl (by kernel_rfl) ?_) | refine kD ?_ | refine kE ?_ | refine kF ?_); simp (decide := true) only [go_sem, reduceIte, reduceCtorEq, jA, jB, jC, jD, jE, jF, hlt]) | (apply kG; (simp (decide := true) only [go_sem, reduceIte, reduceCtorEq, jA, jB, jC, jD, jE, jF, hlt]; rfl); all_goals (intro hcnd; first | (exact absurd hcnd (by decide)) | skip))))
    rw [hasA, any_take_no hi]
end Go.Proofs.YtiaamlaibfpdgaaDoor

namespace Go.Proofs.YtiaamlaibfpdgaaDoor
abbrev kpm9 : List (Nat × Go.Dl.Mode) := [(0, .light), (1, .light), (2, .light), (3, .light), (4, .light), (5, .light), (6, .light), (7, .light), (8, .light), (9, .step), (10, .light)]
end Go.Proofs.YtiaamlaibfpdgaaDoor
/- Entries: senses. -/
namespace Go.Proofs.YtiaamlaibfpdgaaDoor
open Go.Dl
open Go.Dl renaming dw_seq → kA, dw_block → kB, dw_reg → kC, dw_skip → kD, dw_exit → kE, dw_ret → kF, dw_cond → kG, guardC_f → kH, guardC_t → kI, dw_drw → kJ, dw_weaken → kK, sub_kn → kL, sub_ml → kM
open Go.Dl.CallC renaming mk → kN, light → kO
open Go.Dl.LeL renaming of_eq → kP
attribute [local irreducible] DW DCalls ECalls wk IW

def hasG (seen : List Sns) (g : ByteArray) : Bool := seen.any fun x => x.gloss == g
def senseE (seen : List Sns) (s : Sns) : Int := if glossB s.gloss = false then 7 else if textE s.txt ≠ 0 then textE s.txt else if hasG seen s.gloss = true then 8 else 0
def sensL (seen : List Sns) : List Sns → Int
  | [] => 0
  | s :: l => if senseE seen s ≠ 0 then senseE seen s else sensL (seen ++ [s]) l
def sensesE (e : Ent) : Int :=
  if e.main ≠ 0 ∧ ident e.main = false then 2 else if e.main = e.id then 17 else if 5 < e.senses.length then 11 else if e.senses.length = 0 ∧ e.main = 0 then 4 else sensL [] e.senses

set_option maxRecDepth 10000 in
theorem sense1_D (x s : Sns) : DCalls Tryd.prog 81 [.agg x.row, dv (.pt s.enc)] (dv (lb (x.gloss == s.gloss))) := by
  refine dcalls (N := 9) (rs := [.tmp 3]) (by kernel_rfl) Tryd.func81 rfl rfl rfl (by simp) ?_
  (repeat' (first | refine kA ?_ | refine kB ?_ | ((first | (refine kC (N := 9) rfl (by kernel_rfl) ?_) | refine kD ?_ | refine kE ?_ | refine kF ?_); simp (decide := true) only [go_sem, reduceIte, reduceCtorEq, jA, jB, jC, jD, jE, jF, Sns.row, Sns.enc]) | (apply kG; (simp (decide := true) only [go_sem, reduceIte, reduceCtorEq, jA, jB, jC, jD, jE, jF, Sns.row, Sns.enc]; rfl); all_goals (intro hcnd; first | (exact absurd hcnd (by decide)) | skip))))

set_option maxRecDepth 10000 in
set_option maxHeartbeats 2000000 in
theorem idxS_D (s : Sns) (xs : List Sns) (hl : xs.length ≤ maxLen) : DCalls Tryd.prog 98 [dv (.sl 2 (xs.map Sns.enc)), dv (.fn 81 [.pt s.enc])] (dv (li (idxF (fun x => x.gloss == s.gloss) xs))) := by
  have hmax : maxLen = 9223372036854775807 := rfl
  refine dcalls (N := 19) (rs := [.tmp 4]) (by kernel_rfl) Tryd.func98 rfl rfl rfl (by simp) ?_
  (repeat (first | refine kA ?_ | refine kB ?_ | ((first | (refine kC (N := 19) rfl (by kernel_rfl) ?_) | refine kD ?_ | refine kE ?_); simp (decide := true) only [go_sem, reduceIte, reduceCtorEq, jA, jB, jC, jD, jE, jF])))
  refine dw_rngI xs (fun k => kn 19 [(0, dv (.sl 2 (xs.map Sns.enc))), (1, dv (.fn 81 [.pt s.enc])), (7, dv (li xs.length)), (8, dv (li k))] noMem) (fun k => ∀ x ∈ xs.take k, (x.gloss == s.gloss) = false) (by omega) (kL rfl (by simp (decide := true) only [go_sem, reduceIte, reduceCtorEq, jA, jB, jC, jD, jE, jF]) (by simp [noMem])) (by simp) ?_ ?_
  · intro k x hx hk hm htk hlt hw hi
    have hc := sense1_D x s
    simp only [Sns.row] at hc
    (repeat' (first | refine kA ?_ | refine kB ?_ | ((first | (refine kC (N := 19) rfl (by kernel_rfl) ?_) | refine kD ?_ | refine kE ?_ | (refine kN (hc) (kP rfl) ?_) | (refine kO (hc) (kP rfl) ?_) | refine kF ?_); simp (decide := true) only [go_sem, reduceIte, reduceCtorEq, jA, jB, jC, jD, jE, jF, hlt, hw, hx, Sns.enc]) | (apply kG; (simp (decide := true) only [go_sem, reduceIte, reduceCtorEq, jA, jB, jC, jD, jE, jF, hlt, hw, hx, Sns.enc]; rfl); all_goals (intro hcnd; first | (exact absurd hcnd (by decide)) | skip))))
    · rw [idxF_at hx hi hcnd]
    · exact ⟨forall_snoc htk hi hcnd, kL rfl (by simp (decide := true) only [go_sem, reduceIte, reduceCtorEq, jA, jB, jC, jD, jE, jF]) (by simp [noMem])⟩
  · intro hlt hi
    rw [List.take_length] at hi
    (repeat' (first | refine kA ?_ | refine kB ?_ | ((first | (refine kC (N := 19) rfl (by kernel_rfl) ?_) | refine kD ?_ | refine kE ?_ | refine kF ?_); simp (decide := true) only [go_sem, reduceIte, reduceCtorEq, jA, jB, jC, jD, jE, jF, hlt]) | (apply kG; (simp (decide := true) only [go_sem, reduceIte, reduceCtorEq, jA, jB, jC, jD, jE, jF, hlt]; rfl); all_goals (intro hcnd; first | (exact absurd hcnd (by decide)) | skip))))
    rw [idxF_no hi]

set_option maxRecDepth 10000 in
theorem conS_D (s : Sns) (xs : List Sns) (hl : xs.length ≤ maxLen) : DCalls Tryd.prog 80 [dv (.sl 2 (xs.map Sns.enc)), dv (.fn 81 [.pt s.enc])] (dv (lb (hasG xs s.gloss))) := by
  have h := idxF_any (fun x : Sns => x.gloss == s.gloss) xs
  refine dcalls (N := 9) (rs := [.tmp 4]) (by kernel_rfl) Tryd.func80 rfl rfl rfl (by simp) ?_
  (repeat' (first | refine kA ?_ | refine kB ?_ | ((first | (refine kC (N := 9) rfl (by kernel_rfl) ?_) | refine kD ?_ | refine kE ?_ | (refine kN (idxS_D s xs hl) (kP rfl) ?_) | (refine kO (idxS_D s xs hl) (kP rfl) ?_) | refine kF ?_); simp (decide := true) only [go_sem, reduceIte, reduceCtorEq, jA, jB, jC, jD, jE, jF, h]) | (apply kG; (simp (decide := true) only [go_sem, reduceIte, reduceCtorEq, jA, jB, jC, jD, jE, jF, h]; rfl); all_goals (intro hcnd; first | (exact absurd hcnd (by decide)) | skip))))
  rfl

set_option maxRecDepth 10000 in
set_option maxHeartbeats 2000000 in
theorem sense_D (xs : List Sns) (s : Sns) (hl : xs.length ≤ maxLen) : DCalls Tryd.prog 51 [dv (.sl 2 (xs.map Sns.enc)), .agg s.row] (dv (li (senseE xs s))) := by
  have hG := gloss_D s.gloss
  have hT := text_D s.txt
  have hC := conS_D s xs hl
  simp only [Sns.enc] at hC
  refine dcalls (N := 19) (rs := [.tmp 4]) (by kernel_rfl) Tryd.func51 rfl rfl rfl (by simp) ?_
  cases t1 : glossB s.gloss
  · rw [t1] at hG
    (repeat' (first | refine kA ?_ | refine kB ?_ | ((first | (refine kC (N := 19) rfl (by kernel_rfl) ?_) | refine kD ?_ | refine kE ?_ | (refine kN (hG) (kP rfl) ?_) | (refine kO (hG) (kP rfl) ?_) | refine kF ?_); simp (decide := true) only [go_sem, reduceIte, reduceCtorEq, jA, jB, jC, jD, jE, jF, Sns.row]) | (apply kG; (simp (decide := true) only [go_sem, reduceIte, reduceCtorEq, jA, jB, jC, jD, jE, jF, Sns.row]; rfl); all_goals (intro hcnd; first | (exact absurd hcnd (by decide)) | skip))))
    rw [senseE, if_pos t1]
  rw [t1] at hG
  have n1 : ¬ glossB s.gloss = false := by rw [t1]; decide
  rcases Bool.eq_false_or_eq_true (textE s.txt != 0) with t2 | t2
  · have n2 : textE s.txt ≠ 0 := by simpa using t2
    (repeat' (first | refine kA ?_ | refine kB ?_ | ((first | (refine kC (N := 19) rfl (by kernel_rfl) ?_) | refine kD ?_ | refine kE ?_ | (refine kN (hG) (kP rfl) ?_) | (refine kO (hG) (kP rfl) ?_) | (refine kN (hT) (kP rfl) ?_) | (refine kO (hT) (kP rfl) ?_) | refine kF ?_); simp (decide := true) only [go_sem, reduceIte, reduceCtorEq, jA, jB, jC, jD, jE, jF, Sns.row, t2]) | (apply kG; (simp (decide := true) only [go_sem, reduceIte, reduceCtorEq, jA, jB, jC, jD, jE, jF, Sns.row, t2]; rfl); all_goals (intro hcnd; first | (exact absurd hcnd (by decide)) | skip))))
    rw [senseE, if_neg n1, if_pos n2]
  have n2 : ¬ textE s.txt ≠ 0 := by simpa using t2
  (repeat' (first | refine kA ?_ | refine kB ?_ | ((first | (refine kC (N := 19) rfl (by kernel_rfl) ?_) | refine kD ?_ | refine kE ?_ | (refine kN (hG) (kP rfl) ?_) | (refine kO (hG) (kP rfl) ?_) | (refine kN (hT) (kP rfl) ?_) | (refine kO (hT) (kP rfl) ?_)); simp (decide := true) only [go_sem, reduceIte, reduceCtorEq, jA, jB, jC, jD, jE, jF, Sns.row, t2]) | (apply kG; (simp (decide := true) only [go_sem, reduceIte, reduceCtorEq, jA, jB, jC, jD, jE, jF, Sns.row, t2]; rfl); all_goals (intro hcnd; first | (exact absurd hcnd (by decide)) | skip))))
  refine CallC.frz 3 s.enc (by simp [Sns.enc]) (by simp (decide := true) only [go_sem, reduceIte, reduceCtorEq, jA, jB, jC, jD, jE, jF, Sns.enc]) ?_
  simp (decide := true) only [go_sem, reduceIte, reduceCtorEq, jA, jB, jC, jD, jE, jF, Sns.enc]
  refine kN hC (kP rfl) ?_
  simp (decide := true) only [go_sem, reduceIte, reduceCtorEq, jA, jB, jC, jD, jE, jF]
  cases t3 : hasG xs s.gloss <;> (repeat' (first | refine kA ?_ | refine kB ?_ | ((first | (refine kC (N := 19) rfl (by kernel_rfl) ?_) | refine kD ?_ | refine kE ?_ | refine kF ?_); simp (decide := true) only [go_sem, reduceIte, reduceCtorEq, jA, jB, jC, jD, jE, jF, t3]) | (apply kG; (simp (decide := true) only [go_sem, reduceIte, reduceCtorEq, jA, jB, jC, jD, jE, jF, t3]; rfl); all_goals (intro hcnd; first | (exact absurd hcnd (by decide)) | skip)))) <;> rw [senseE, if_neg n1, if_neg n2, t3] <;> rfl

set_option maxRecDepth 10000 in
set_option maxHeartbeats 2000000 in
theorem rHasG_D (xs : List Sns) (g : ByteArray) (hl : xs.length ≤ maxLen) : DCalls Tryd.prog 83 [dv (.sl 2 (xs.map Sns.enc)), dv (ls g)] (dv (lb (hasG xs g))) := by
  have hmax : maxLen = 9223372036854775807 := rfl
  refine dcalls (N := 19) (rs := [.tmp 4]) (by kernel_rfl) Tryd.func83 rfl rfl rfl (by simp) ?_
  (repeat (first | refine kA ?_ | refine kB ?_ | ((first | (refine kC (N := 19) rfl (by kernel_rfl) ?_) | refine kD ?_ | refine kE ?_); simp (decide := true) only [go_sem, reduceIte, reduceCtorEq, jA, jB, jC, jD, jE, jF])))
  refine dw_rngI xs (fun k => kn 19 [(0, dv (.sl 2 (xs.map Sns.enc))), (1, dv (ls g)), (5, dv (li k))] noMem) (fun k => ∀ x ∈ xs.take k, (x.gloss == g) = false) (by omega) (kL rfl (by simp (decide := true) only [go_sem, reduceIte, reduceCtorEq, jA, jB, jC, jD, jE, jF]) (by simp [noMem])) (by simp) ?_ ?_
  · intro k x hx hk hm htk hlt hw hi
    (repeat' (first | refine kA ?_ | refine kB ?_ | ((first | (refine kC (N := 19) rfl (by kernel_rfl) ?_) | refine kD ?_ | refine kE ?_ | refine kF ?_); simp (decide := true) only [go_sem, reduceIte, reduceCtorEq, jA, jB, jC, jD, jE, jF, hlt, hw, hx, Sns.enc]) | (apply kG; (simp (decide := true) only [go_sem, reduceIte, reduceCtorEq, jA, jB, jC, jD, jE, jF, hlt, hw, hx, Sns.enc]; rfl); all_goals (intro hcnd; first | (exact absurd hcnd (by decide)) | skip))))
    · rw [hasG, any_at hx hcnd]
    · exact ⟨forall_snoc htk hi hcnd, kL rfl (by simp (decide := true) only [go_sem, reduceIte, reduceCtorEq, jA, jB, jC, jD, jE, jF]) (by simp [noMem])⟩
  · intro hlt hi
    (repeat' (first | refine kA ?_ | refine kB ?_ | ((first | (refine kC (N := 19) rfl (by kernel_rfl) ?_) | refine kD ?_ | refine kE ?_ | refine kF ?_); simp (decide := true) only [go_sem, reduceIte, reduceCtorEq, jA, jB, jC, jD, jE, jF, hlt]) | (apply kG; (simp (decide := true) only [go_sem, reduceIte, reduceCtorEq, jA, jB, jC, jD, jE, jF, hlt]; rfl); all_goals (intro hcnd; first | (exact absurd hcnd (by decide)) | skip))))
    rw [hasG, any_take_no hi]

set_option maxRecDepth 10000 in
set_option maxHeartbeats 2000000 in
theorem rSense_D (xs : List Sns) (s : Sns) (hl : xs.length ≤ maxLen) (h1 : s.gloss.size ≤ 1048576) (h2 : s.txt.size ≤ 1048576) : DCalls Tryd.prog 53 [dv (.sl 2 (xs.map Sns.enc)), .agg s.row] (dv (li (senseE xs s))) := by
  have hG := rGloss_D s.gloss h1
  have hT := rText_D s.txt
  have hC := rHasG_D xs s.gloss hl
  refine dcalls (N := 20) (rs := [.tmp 4]) (by kernel_rfl) Tryd.func53 rfl rfl rfl (by simp) ?_
  cases t1 : glossB s.gloss
  · rw [t1] at hG
    (repeat' (first | refine kA ?_ | refine kB ?_ | ((first | (refine kC (N := 20) rfl (by kernel_rfl) ?_) | refine kD ?_ | refine kE ?_ | (refine kN (hG) (kP rfl) ?_) | (refine kO (hG) (kP rfl) ?_) | refine kF ?_); simp (decide := true) only [go_sem, reduceIte, reduceCtorEq, jA, jB, jC, jD, jE, jF, Sns.row]) | (apply kG; (simp (decide := true) only [go_sem, reduceIte, reduceCtorEq, jA, jB, jC, jD, jE, jF, Sns.row]; rfl); all_goals (intro hcnd; first | (exact absurd hcnd (by decide)) | skip))))
    rw [senseE, if_pos t1]
  rw [t1] at hG
  have n1 : ¬ glossB s.gloss = false := by rw [t1]; decide
  rcases Bool.eq_false_or_eq_true (textE s.txt != 0) with t2 | t2
  · have n2 : textE s.txt ≠ 0 := by simpa using t2
    (repeat' (first | refine kA ?_ | refine kB ?_ | ((first | (refine kC (N := 20) rfl (by kernel_rfl) ?_) | refine kD ?_ | refine kE ?_ | (refine kN (hG) (kP rfl) ?_) | (refine kO (hG) (kP rfl) ?_) | (refine kN (hT) (kP rfl) ?_) | (refine kO (hT) (kP rfl) ?_) | refine kF ?_); simp (decide := true) only [go_sem, reduceIte, reduceCtorEq, jA, jB, jC, jD, jE, jF, Sns.row, t2]) | (apply kG; (simp (decide := true) only [go_sem, reduceIte, reduceCtorEq, jA, jB, jC, jD, jE, jF, Sns.row, t2]; rfl); all_goals (intro hcnd; first | (exact absurd hcnd (by decide)) | skip))))
    rw [senseE, if_neg n1, if_pos n2]
  have n2 : ¬ textE s.txt ≠ 0 := by simpa using t2
  cases t3 : hasG xs s.gloss
  · rw [t3] at hC
    (repeat' (first | refine kA ?_ | refine kB ?_ | ((first | (refine kC (N := 20) rfl (by kernel_rfl) ?_) | refine kD ?_ | refine kE ?_ | (refine kN (hG) (kP rfl) ?_) | (refine kO (hG) (kP rfl) ?_) | (refine kN (hT) (kP rfl) ?_) | (refine kO (hT) (kP rfl) ?_) | (refine kN (hC) (kP rfl) ?_) | (refine kO (hC) (kP rfl) ?_) | refine kF ?_); simp (decide := true) only [go_sem, reduceIte, reduceCtorEq, jA, jB, jC, jD, jE, jF, Sns.row, t2]) | (apply kG; (simp (decide := true) only [go_sem, reduceIte, reduceCtorEq, jA, jB, jC, jD, jE, jF, Sns.row, t2]; rfl); all_goals (intro hcnd; first | (exact absurd hcnd (by decide)) | skip))))
    rw [senseE, if_neg n1, if_neg n2, t3]; rfl
  · rw [t3] at hC
    (repeat' (first | refine kA ?_ | refine kB ?_ | ((first | (refine kC (N := 20) rfl (by kernel_rfl) ?_) | refine kD ?_ | refine kE ?_ | (refine kN (hG) (kP rfl) ?_) | (refine kO (hG) (kP rfl) ?_) | (refine kN (hT) (kP rfl) ?_) | (refine kO (hT) (kP rfl) ?_) | (refine kN (hC) (kP rfl) ?_) | (refine kO (hC) (kP rfl) ?_) | refine kF ?_); simp (decide := true) only [go_sem, reduceIte, reduceCtorEq, jA, jB, jC, jD, jE, jF, Sns.row, t2]) | (apply kG; (simp (decide := true) only [go_sem, reduceIte, reduceCtorEq, jA, jB, jC, jD, jE, jF, Sns.row, t2]; rfl); all_goals (intro hcnd; first | (exact absurd hcnd (by decide)) | skip))))
    rw [senseE, if_neg n1, if_neg n2, t3]; rfl

set_option maxRecDepth 10000 in

set_option maxHeartbeats 8000000 in
theorem senses_D (e : Ent) : DCalls Tryd.prog 41 [.agg e.row] (dv (li (sensesE e))) := by
  have hmax : maxLen = 9223372036854775807 := rfl
  refine dcalls_grant (p := OkE e ∧ True) (by kernel_rfl) (fun w K h => ?_) fun he => ?_
  · obtain ⟨v, hv⟩ := h (.agg e.row) (by simp)
    exact ⟨okE_of hv, trivial⟩
  have hI := ident_D e.main
  refine dcalls (N := 55) (rs := [.tmp 2]) (by kernel_rfl) Tryd.func41 rfl rfl rfl (by simp) ?_
  rcases Bool.eq_false_or_eq_true (e.main != 0) with t1 | t1
  · have n1 : e.main ≠ 0 := by simpa using t1
    have t5' : (e.main == 0) = false := by simpa using n1
    cases t2 : ident e.main
    · rw [t2] at hI
      (repeat' (first | refine kA ?_ | refine kB ?_ | ((first | (refine kC (N := 55) rfl (by kernel_rfl) ?_) | (apply kJ (id := 12) (N := 55) kpm1; kernel_rfl; rfl; kernel_rfl; (repeat (first | exact Picks.nil | (apply Picks.cons; rfl)))) | refine kD ?_ | refine kE ?_ | (refine kN (hI) (kP rfl) ?_) | (refine kO (hI) (kP rfl) ?_) | refine kF ?_); simp (decide := true) only [go_sem, reduceIte, reduceCtorEq, jA, jB, jC, jD, jE, jF, t1, Ent.row]) | (apply kG; (simp (decide := true) only [go_sem, reduceIte, reduceCtorEq, jA, jB, jC, jD, jE, jF, t1, Ent.row]; rfl); all_goals (intro hcnd; first | (exact absurd hcnd (by decide)) | skip)) | ((first | refine kH ?_ ?_ | refine kI ?_ ?_) <;> (intro hcnd; simp (decide := true) only [go_sem, reduceIte, reduceCtorEq, jA, jB, jC, jD, jE, jF, hcnd, t1, Ent.row]))))
      rw [sensesE, if_pos ⟨n1, t2⟩]
    rw [t2] at hI
    have m1 : ¬ (e.main ≠ 0 ∧ ident e.main = false) := by simp [t2]
    rcases Bool.eq_false_or_eq_true (e.main == e.id) with t3 | t3
    · (repeat' (first | refine kA ?_ | refine kB ?_ | ((first | (refine kC (N := 55) rfl (by kernel_rfl) ?_) | (apply kJ (id := 12) (N := 55) kpm1; kernel_rfl; rfl; kernel_rfl; (repeat (first | exact Picks.nil | (apply Picks.cons; rfl)))) | refine kD ?_ | refine kE ?_ | (refine kN (hI) (kP rfl) ?_) | (refine kO (hI) (kP rfl) ?_) | refine kF ?_); simp (decide := true) only [go_sem, reduceIte, reduceCtorEq, jA, jB, jC, jD, jE, jF, t1, t3, Ent.row]) | (apply kG; (simp (decide := true) only [go_sem, reduceIte, reduceCtorEq, jA, jB, jC, jD, jE, jF, t1, t3, Ent.row]; rfl); all_goals (intro hcnd; first | (exact absurd hcnd (by decide)) | skip)) | ((first | refine kH ?_ ?_ | refine kI ?_ ?_) <;> (intro hcnd; simp (decide := true) only [go_sem, reduceIte, reduceCtorEq, jA, jB, jC, jD, jE, jF, hcnd, t1, t3, Ent.row]))))
      rw [sensesE, if_neg m1, if_pos (by simpa using t3)]
    have m3 : ¬ e.main = e.id := by simpa using t3
    rcases Bool.eq_false_or_eq_true (decide ((5 : Int) < (e.senses.length : Int))) with t4 | t4
    · (repeat' (first | refine kA ?_ | refine kB ?_ | ((first | (refine kC (N := 55) rfl (by kernel_rfl) ?_) | (apply kJ (id := 12) (N := 55) kpm1; kernel_rfl; rfl; kernel_rfl; (repeat (first | exact Picks.nil | (apply Picks.cons; rfl)))) | refine kD ?_ | refine kE ?_ | (refine kN (hI) (kP rfl) ?_) | (refine kO (hI) (kP rfl) ?_) | refine kF ?_); simp (decide := true) only [go_sem, reduceIte, reduceCtorEq, jA, jB, jC, jD, jE, jF, t1, t3, t4, Ent.row]) | (apply kG; (simp (decide := true) only [go_sem, reduceIte, reduceCtorEq, jA, jB, jC, jD, jE, jF, t1, t3, t4, Ent.row]; rfl); all_goals (intro hcnd; first | (exact absurd hcnd (by decide)) | skip)) | ((first | refine kH ?_ ?_ | refine kI ?_ ?_) <;> (intro hcnd; simp (decide := true) only [go_sem, reduceIte, reduceCtorEq, jA, jB, jC, jD, jE, jF, hcnd, t1, t3, t4, Ent.row]))))
      rw [sensesE, if_neg m1, if_neg m3, if_pos (by have := of_decide_eq_true t4; omega)]
    have m4 : ¬ 5 < e.senses.length := by have := of_decide_eq_false t4; omega
    rcases Bool.eq_false_or_eq_true ((e.senses.length : Int) == 0) with t5 | t5
    · (repeat' (first | refine kA ?_ | refine kB ?_ | ((first | (refine kC (N := 55) rfl (by kernel_rfl) ?_) | (apply kJ (id := 12) (N := 55) kpm1; kernel_rfl; rfl; kernel_rfl; (repeat (first | exact Picks.nil | (apply Picks.cons; rfl)))) | refine kD ?_ | refine kE ?_ | (refine kN (hI) (kP rfl) ?_) | (refine kO (hI) (kP rfl) ?_)); simp (decide := true) only [go_sem, reduceIte, reduceCtorEq, jA, jB, jC, jD, jE, jF, t1, t3, t4, t5, t5', Ent.row]) | (apply kG; (simp (decide := true) only [go_sem, reduceIte, reduceCtorEq, jA, jB, jC, jD, jE, jF, t1, t3, t4, t5, t5', Ent.row]; rfl); all_goals (intro hcnd; first | (exact absurd hcnd (by decide)) | skip)) | ((first | refine kH ?_ ?_ | refine kI ?_ ?_) <;> (intro hcnd; simp (decide := true) only [go_sem, reduceIte, reduceCtorEq, jA, jB, jC, jD, jE, jF, hcnd, t1, t3, t4, t5, t5', Ent.row]))))
      refine dw_rngI e.senses (fun k => kn 55 [(1, .one (.bx 1 8 0 0)), (38, dv (.sl 2 (e.senses.map Sns.enc))), (39, dv (li e.senses.length)), (40, dv (li k))] (ml [(1, [e.row])])) (fun k => sensL (e.senses.take k) (e.senses.drop k) = sensesE e) he.1.senses (kM rfl (by simp (decide := true) only [go_sem, reduceIte, reduceCtorEq, jA, jB, jC, jD, jE, jF]) (by simp (decide := true) only [go_sem, reduceIte, reduceCtorEq, jA, jB, jC, jD, jE, jF, Ent.row])) (by rw [sensesE, if_neg m1, if_neg m3, if_neg m4, if_neg (by simp [n1])]; simp) ?_ ?_
      · intro k s hs hk hm htk hlt hw hi
        rw [drop_at hs, sensL] at hi
        have hkm : (k ≤ e.senses.length) = True := eq_true (by omega)
        have hz : (0 ≤ k) = True := eq_true (Nat.zero_le k)
        have htm : List.take k (e.senses.map Sns.enc) = (e.senses.take k).map Sns.enc := (List.map_take ..).symm
        have hkl : (e.senses.take k).length ≤ maxLen := by rw [List.length_take]; have := he.1.senses; omega
        have hS := sense_D (e.senses.take k) s hkl
        simp only [Sns.row] at hS
        rcases Bool.eq_false_or_eq_true (senseE (e.senses.take k) s != 0) with t6 | t6
        · have n6 : senseE (e.senses.take k) s ≠ 0 := by simpa using t6
          rw [if_pos n6] at hi
          (repeat' (first | refine kA ?_ | refine kB ?_ | ((first | (refine kC (N := 55) rfl (by kernel_rfl) ?_) | (apply kJ (id := 12) (N := 55) kpm1; kernel_rfl; rfl; kernel_rfl; (repeat (first | exact Picks.nil | (apply Picks.cons; rfl)))) | refine kD ?_ | refine kE ?_ | (refine kN (hS) (kP rfl) ?_) | (refine kO (hS) (kP rfl) ?_) | refine kF ?_); simp (decide := true) only [go_sem, reduceIte, reduceCtorEq, jA, jB, jC, jD, jE, jF, hlt, hw, hs, t6, hkm, hz, htm, List.drop_zero, Int.toNat_natCast, Ent.row, Sns.enc]) | (apply kG; (simp (decide := true) only [go_sem, reduceIte, reduceCtorEq, jA, jB, jC, jD, jE, jF, hlt, hw, hs, t6, hkm, hz, htm, List.drop_zero, Int.toNat_natCast, Ent.row, Sns.enc]; rfl); all_goals (intro hcnd; first | (exact absurd hcnd (by decide)) | skip)) | ((first | refine kH ?_ ?_ | refine kI ?_ ?_) <;> (intro hcnd; simp (decide := true) only [go_sem, reduceIte, reduceCtorEq, jA, jB, jC, jD, jE, jF, hcnd, hlt, hw, hs, t6, hkm, hz, htm, List.drop_zero, Int.toNat_natCast, Ent.row, Sns.enc]))))
          rw [hi]
        · have n6 : ¬ senseE (e.senses.take k) s ≠ 0 := by simpa using t6
          rw [if_neg n6] at hi
          (repeat' (first | refine kA ?_ | refine kB ?_ | ((first | (refine kC (N := 55) rfl (by kernel_rfl) ?_) | (apply kJ (id := 12) (N := 55) kpm1; kernel_rfl; rfl; kernel_rfl; (repeat (first | exact Picks.nil | (apply Picks.cons; rfl)))) | refine kD ?_ | refine kE ?_ | (refine kN (hS) (kP rfl) ?_) | (refine kO (hS) (kP rfl) ?_) | refine kF ?_); simp (decide := true) only [go_sem, reduceIte, reduceCtorEq, jA, jB, jC, jD, jE, jF, hlt, hw, hs, t6, hkm, hz, htm, List.drop_zero, Int.toNat_natCast, Ent.row, Sns.enc]) | (apply kG; (simp (decide := true) only [go_sem, reduceIte, reduceCtorEq, jA, jB, jC, jD, jE, jF, hlt, hw, hs, t6, hkm, hz, htm, List.drop_zero, Int.toNat_natCast, Ent.row, Sns.enc]; rfl); all_goals (intro hcnd; first | (exact absurd hcnd (by decide)) | skip)) | ((first | refine kH ?_ ?_ | refine kI ?_ ?_) <;> (intro hcnd; simp (decide := true) only [go_sem, reduceIte, reduceCtorEq, jA, jB, jC, jD, jE, jF, hcnd, hlt, hw, hs, t6, hkm, hz, htm, List.drop_zero, Int.toNat_natCast, Ent.row, Sns.enc]))))
          exact ⟨by rw [htk]; exact hi, kM rfl (by simp (decide := true) only [go_sem, reduceIte, reduceCtorEq, jA, jB, jC, jD, jE, jF]) (by simp (decide := true) only [go_sem, reduceIte, reduceCtorEq, jA, jB, jC, jD, jE, jF, Ent.row])⟩
      · intro hlt hi
        (repeat' (first | refine kA ?_ | refine kB ?_ | ((first | (refine kC (N := 55) rfl (by kernel_rfl) ?_) | (apply kJ (id := 12) (N := 55) kpm1; kernel_rfl; rfl; kernel_rfl; (repeat (first | exact Picks.nil | (apply Picks.cons; rfl)))) | refine kD ?_ | refine kE ?_ | refine kF ?_); simp (decide := true) only [go_sem, reduceIte, reduceCtorEq, jA, jB, jC, jD, jE, jF, hlt, Ent.row]) | (apply kG; (simp (decide := true) only [go_sem, reduceIte, reduceCtorEq, jA, jB, jC, jD, jE, jF, hlt, Ent.row]; rfl); all_goals (intro hcnd; first | (exact absurd hcnd (by decide)) | skip)) | ((first | refine kH ?_ ?_ | refine kI ?_ ?_) <;> (intro hcnd; simp (decide := true) only [go_sem, reduceIte, reduceCtorEq, jA, jB, jC, jD, jE, jF, hcnd, hlt, Ent.row]))))
        rw [← hi]; simp [sensL]
    · (repeat' (first | refine kA ?_ | refine kB ?_ | ((first | (refine kC (N := 55) rfl (by kernel_rfl) ?_) | (apply kJ (id := 12) (N := 55) kpm1; kernel_rfl; rfl; kernel_rfl; (repeat (first | exact Picks.nil | (apply Picks.cons; rfl)))) | refine kD ?_ | refine kE ?_ | (refine kN (hI) (kP rfl) ?_) | (refine kO (hI) (kP rfl) ?_)); simp (decide := true) only [go_sem, reduceIte, reduceCtorEq, jA, jB, jC, jD, jE, jF, t1, t3, t4, t5, t5', Ent.row]) | (apply kG; (simp (decide := true) only [go_sem, reduceIte, reduceCtorEq, jA, jB, jC, jD, jE, jF, t1, t3, t4, t5, t5', Ent.row]; rfl); all_goals (intro hcnd; first | (exact absurd hcnd (by decide)) | skip)) | ((first | refine kH ?_ ?_ | refine kI ?_ ?_) <;> (intro hcnd; simp (decide := true) only [go_sem, reduceIte, reduceCtorEq, jA, jB, jC, jD, jE, jF, hcnd, t1, t3, t4, t5, t5', Ent.row]))))
      refine dw_rngI e.senses (fun k => kn 55 [(1, .one (.bx 1 8 0 0)), (38, dv (.sl 2 (e.senses.map Sns.enc))), (39, dv (li e.senses.length)), (40, dv (li k))] (ml [(1, [e.row])])) (fun k => sensL (e.senses.take k) (e.senses.drop k) = sensesE e) he.1.senses (kM rfl (by simp (decide := true) only [go_sem, reduceIte, reduceCtorEq, jA, jB, jC, jD, jE, jF]) (by simp (decide := true) only [go_sem, reduceIte, reduceCtorEq, jA, jB, jC, jD, jE, jF, Ent.row])) (by rw [sensesE, if_neg m1, if_neg m3, if_neg m4, if_neg (by simp [n1])]; simp) ?_ ?_
      · intro k s hs hk hm htk hlt hw hi
        rw [drop_at hs, sensL] at hi
        have hkm : (k ≤ e.senses.length) = True := eq_true (by omega)
        have hz : (0 ≤ k) = True := eq_true (Nat.zero_le k)
        have htm : List.take k (e.senses.map Sns.enc) = (e.senses.take k).map Sns.enc := (List.map_take ..).symm
        have hkl : (e.senses.take k).length ≤ maxLen := by rw [List.length_take]; have := he.1.senses; omega
        have hS := sense_D (e.senses.take k) s hkl
        simp only [Sns.row] at hS
        rcases Bool.eq_false_or_eq_true (senseE (e.senses.take k) s != 0) with t6 | t6
        · have n6 : senseE (e.senses.take k) s ≠ 0 := by simpa using t6
          rw [if_pos n6] at hi
          (repeat' (first | refine kA ?_ | refine kB ?_ | ((first | (refine kC (N := 55) rfl (by kernel_rfl) ?_) | (apply kJ (id := 12) (N := 55) kpm1; kernel_rfl; rfl; kernel_rfl; (repeat (first | exact Picks.nil | (apply Picks.cons; rfl)))) | refine kD ?_ | refine kE ?_ | (refine kN (hS) (kP rfl) ?_) | (refine kO (hS) (kP rfl) ?_) | refine kF ?_); simp (decide := true) only [go_sem, reduceIte, reduceCtorEq, jA, jB, jC, jD, jE, jF, hlt, hw, hs, t6, hkm, hz, htm, List.drop_zero, Int.toNat_natCast, Ent.row, Sns.enc]) | (apply kG; (simp (decide := true) only [go_sem, reduceIte, reduceCtorEq, jA, jB, jC, jD, jE, jF, hlt, hw, hs, t6, hkm, hz, htm, List.drop_zero, Int.toNat_natCast, Ent.row, Sns.enc]; rfl); all_goals (intro hcnd; first | (exact absurd hcnd (by decide)) | skip)) | ((first | refine kH ?_ ?_ | refine kI ?_ ?_) <;> (intro hcnd; simp (decide := true) only [go_sem, reduceIte, reduceCtorEq, jA, jB, jC, jD, jE, jF, hcnd, hlt, hw, hs, t6, hkm, hz, htm, List.drop_zero, Int.toNat_natCast, Ent.row, Sns.enc]))))
          rw [hi]
        · have n6 : ¬ senseE (e.senses.take k) s ≠ 0 := by simpa using t6
          rw [if_neg n6] at hi
          (repeat' (first | refine kA ?_ | refine kB ?_ | ((first | (refine kC (N := 55) rfl (by kernel_rfl) ?_) | (apply kJ (id := 12) (N := 55) kpm1; kernel_rfl; rfl; kernel_rfl; (repeat (first | exact Picks.nil | (apply Picks.cons; rfl)))) | refine kD ?_ | refine kE ?_ | (refine kN (hS) (kP rfl) ?_) | (refine kO (hS) (kP rfl) ?_) | refine kF ?_); simp (decide := true) only [go_sem, reduceIte, reduceCtorEq, jA, jB, jC, jD, jE, jF, hlt, hw, hs, t6, hkm, hz, htm, List.drop_zero, Int.toNat_natCast, Ent.row, Sns.enc]) | (apply kG; (simp (decide := true) only [go_sem, reduceIte, reduceCtorEq, jA, jB, jC, jD, jE, jF, hlt, hw, hs, t6, hkm, hz, htm, List.drop_zero, Int.toNat_natCast, Ent.row, Sns.enc]; rfl); all_goals (intro hcnd; first | (exact absurd hcnd (by decide)) | skip)) | ((first | refine kH ?_ ?_ | refine kI ?_ ?_) <;> (intro hcnd; simp (decide := true) only [go_sem, reduceIte, reduceCtorEq, jA, jB, jC, jD, jE, jF, hcnd, hlt, hw, hs, t6, hkm, hz, htm, List.drop_zero, Int.toNat_natCast, Ent.row, Sns.enc]))))
          exact ⟨by rw [htk]; exact hi, kM rfl (by simp (decide := true) only [go_sem, reduceIte, reduceCtorEq, jA, jB, jC, jD, jE, jF]) (by simp (decide := true) only [go_sem, reduceIte, reduceCtorEq, jA, jB, jC, jD, jE, jF, Ent.row])⟩
      · intro hlt hi
        (repeat' (first | refine kA ?_ | refine kB ?_ | ((first | (refine kC (N := 55) rfl (by kernel_rfl) ?_) | (apply kJ (id := 12) (N := 55) kpm1; kernel_rfl; rfl; kernel_rfl; (repeat (first | exact Picks.nil | (apply Picks.cons; rfl)))) | refine kD ?_ | refine kE ?_ | refine kF ?_); simp (decide := true) only [go_sem, reduceIte, reduceCtorEq, jA, jB, jC, jD, jE, jF, hlt, Ent.row]) | (apply kG; (simp (decide := true) only [go_sem, reduceIte, reduceCtorEq, jA, jB, jC, jD, jE, jF, hlt, Ent.row]; rfl); all_goals (intro hcnd; first | (exact absurd hcnd (by decide)) | skip)) | ((first | refine kH ?_ ?_ | refine kI ?_ ?_) <;> (intro hcnd; simp (decide := true) only [go_sem, reduceIte, reduceCtorEq, jA, jB, jC, jD, jE, jF, hcnd, hlt, Ent.row]))))
        rw [← hi]; simp [sensL]
  · have n1 : e.main = 0 := by simpa using t1
    have t5' : (e.main == 0) = true := by simpa using n1
    have m1 : ¬ (e.main ≠ 0 ∧ ident e.main = false) := by simp [n1]
    rcases Bool.eq_false_or_eq_true (e.main == e.id) with t3 | t3
    · (repeat' (first | refine kA ?_ | refine kB ?_ | ((first | (refine kC (N := 55) rfl (by kernel_rfl) ?_) | (apply kJ (id := 12) (N := 55) kpm1; kernel_rfl; rfl; kernel_rfl; (repeat (first | exact Picks.nil | (apply Picks.cons; rfl)))) | refine kD ?_ | refine kE ?_ | refine kF ?_); simp (decide := true) only [go_sem, reduceIte, reduceCtorEq, jA, jB, jC, jD, jE, jF, t1, t3, Ent.row]) | (apply kG; (simp (decide := true) only [go_sem, reduceIte, reduceCtorEq, jA, jB, jC, jD, jE, jF, t1, t3, Ent.row]; rfl); all_goals (intro hcnd; first | (exact absurd hcnd (by decide)) | skip)) | ((first | refine kH ?_ ?_ | refine kI ?_ ?_) <;> (intro hcnd; simp (decide := true) only [go_sem, reduceIte, reduceCtorEq, jA, jB, jC, jD, jE, jF, hcnd, t1, t3, Ent.row]))))
      rw [sensesE, if_neg m1, if_pos (by simpa using t3)]
    have m3 : ¬ e.main = e.id := by simpa using t3
    rcases Bool.eq_false_or_eq_true (decide ((5 : Int) < (e.senses.length : Int))) with t4 | t4
    · (repeat' (first | refine kA ?_ | refine kB ?_ | ((first | (refine kC (N := 55) rfl (by kernel_rfl) ?_) | (apply kJ (id := 12) (N := 55) kpm1; kernel_rfl; rfl; kernel_rfl; (repeat (first | exact Picks.nil | (apply Picks.cons; rfl)))) | refine kD ?_ | refine kE ?_ | refine kF ?_); simp (decide := true) only [go_sem, reduceIte, reduceCtorEq, jA, jB, jC, jD, jE, jF, t1, t3, t4, Ent.row]) | (apply kG; (simp (decide := true) only [go_sem, reduceIte, reduceCtorEq, jA, jB, jC, jD, jE, jF, t1, t3, t4, Ent.row]; rfl); all_goals (intro hcnd; first | (exact absurd hcnd (by decide)) | skip)) | ((first | refine kH ?_ ?_ | refine kI ?_ ?_) <;> (intro hcnd; simp (decide := true) only [go_sem, reduceIte, reduceCtorEq, jA, jB, jC, jD, jE, jF, hcnd, t1, t3, t4, Ent.row]))))
      rw [sensesE, if_neg m1, if_neg m3, if_pos (by have := of_decide_eq_true t4; omega)]
    have m4 : ¬ 5 < e.senses.length := by have := of_decide_eq_false t4; omega
    rcases Bool.eq_false_or_eq_true ((e.senses.length : Int) == 0) with t5 | t5
    · have n5 : e.senses.length = 0 := by have := beq_iff_eq.1 t5; omega
      (repeat' (first | refine kA ?_ | refine kB ?_ | ((first | (refine kC (N := 55) rfl (by kernel_rfl) ?_) | (apply kJ (id := 12) (N := 55) kpm1; kernel_rfl; rfl; kernel_rfl; (repeat (first | exact Picks.nil | (apply Picks.cons; rfl)))) | refine kD ?_ | refine kE ?_ | refine kF ?_); simp (decide := true) only [go_sem, reduceIte, reduceCtorEq, jA, jB, jC, jD, jE, jF, t1, t3, t4, t5, t5', Ent.row]) | (apply kG; (simp (decide := true) only [go_sem, reduceIte, reduceCtorEq, jA, jB, jC, jD, jE, jF, t1, t3, t4, t5, t5', Ent.row]; rfl); all_goals (intro hcnd; first | (exact absurd hcnd (by decide)) | skip)) | ((first | refine kH ?_ ?_ | refine kI ?_ ?_) <;> (intro hcnd; simp (decide := true) only [go_sem, reduceIte, reduceCtorEq, jA, jB, jC, jD, jE, jF, hcnd, t1, t3, t4, t5, t5', Ent.row]))))
      rw [sensesE, if_neg m1, if_neg m3, if_neg m4, if_pos ⟨n5, n1⟩]
    · have n5 : ¬ e.senses.length = 0 := by have := beq_eq_false_iff_ne.1 t5; omega
      (repeat' (first | refine kA ?_ | refine kB ?_ | ((first | (refine kC (N := 55) rfl (by kernel_rfl) ?_) | (apply kJ (id := 12) (N := 55) kpm1; kernel_rfl; rfl; kernel_rfl; (repeat (first | exact Picks.nil | (apply Picks.cons; rfl)))) | refine kD ?_ | refine kE ?_); simp (decide := true) only [go_sem, reduceIte, reduceCtorEq, jA, jB, jC, jD, jE, jF, t1, t3, t4, t5, t5', Ent.row]) | (apply kG; (simp (decide := true) only [go_sem, reduceIte, reduceCtorEq, jA, jB, jC, jD, jE, jF, t1, t3, t4, t5, t5', Ent.row]; rfl); all_goals (intro hcnd; first | (exact absurd hcnd (by decide)) | skip)) | ((first | refine kH ?_ ?_ | refine kI ?_ ?_) <;> (intro hcnd; simp (decide := true) only [go_sem, reduceIte, reduceCtorEq, jA, jB, jC, jD, jE, jF, hcnd, t1, t3, t4, t5, t5', Ent.row]))))
      refine dw_rngI e.senses (fun k => kn 55 [(1, .one (.bx 1 8 0 0)), (38, dv (.sl 2 (e.senses.map Sns.enc))), (39, dv (li e.senses.length)), (40, dv (li k))] (ml [(1, [e.row])])) (fun k => sensL (e.senses.take k) (e.senses.drop k) = sensesE e) he.1.senses (kM rfl (by simp (decide := true) only [go_sem, reduceIte, reduceCtorEq, jA, jB, jC, jD, jE, jF]) (by simp (decide := true) only [go_sem, reduceIte, reduceCtorEq, jA, jB, jC, jD, jE, jF, Ent.row])) (by rw [sensesE, if_neg m1, if_neg m3, if_neg m4, if_neg (by simp [n5])]; simp) ?_ ?_
      · intro k s hs hk hm htk hlt hw hi
        rw [drop_at hs, sensL] at hi
        have hkm : (k ≤ e.senses.length) = True := eq_true (by omega)
        have hz : (0 ≤ k) = True := eq_true (Nat.zero_le k)
        have htm : List.take k (e.senses.map Sns.enc) = (e.senses.take k).map Sns.enc := (List.map_take ..).symm
        have hkl : (e.senses.take k).length ≤ maxLen := by rw [List.length_take]; have := he.1.senses; omega
        have hS := sense_D (e.senses.take k) s hkl
        simp only [Sns.row] at hS
        rcases Bool.eq_false_or_eq_true (senseE (e.senses.take k) s != 0) with t6 | t6
        · have n6 : senseE (e.senses.take k) s ≠ 0 := by simpa using t6
          rw [if_pos n6] at hi
          (repeat' (first | refine kA ?_ | refine kB ?_ | ((first | (refine kC (N := 55) rfl (by kernel_rfl) ?_) | (apply kJ (id := 12) (N := 55) kpm1; kernel_rfl; rfl; kernel_rfl; (repeat (first | exact Picks.nil | (apply Picks.cons; rfl)))) | refine kD ?_ | refine kE ?_ | (refine kN (hS) (kP rfl) ?_) | (refine kO (hS) (kP rfl) ?_) | refine kF ?_); simp (decide := true) only [go_sem, reduceIte, reduceCtorEq, jA, jB, jC, jD, jE, jF, hlt, hw, hs, t6, hkm, hz, htm, List.drop_zero, Int.toNat_natCast, Ent.row, Sns.enc]) | (apply kG; (simp (decide := true) only [go_sem, reduceIte, reduceCtorEq, jA, jB, jC, jD, jE, jF, hlt, hw, hs, t6, hkm, hz, htm, List.drop_zero, Int.toNat_natCast, Ent.row, Sns.enc]; rfl); all_goals (intro hcnd; first | (exact absurd hcnd (by decide)) | skip)) | ((first | refine kH ?_ ?_ | refine kI ?_ ?_) <;> (intro hcnd; simp (decide := true) only [go_sem, reduceIte, reduceCtorEq, jA, jB, jC, jD, jE, jF, hcnd, hlt, hw, hs, t6, hkm, hz, htm, List.drop_zero, Int.toNat_natCast, Ent.row, Sns.enc]))))
          rw [hi]
        · have n6 : ¬ senseE (e.senses.take k) s ≠ 0 := by simpa using t6
          rw [if_neg n6] at hi
          (repeat' (first | refine kA ?_ | refine kB ?_ | ((first | (refine kC (N := 55) rfl (by kernel_rfl) ?_) | (apply kJ (id := 12) (N := 55) kpm1; kernel_rfl; rfl; kernel_rfl; (repeat (first | exact Picks.nil | (apply Picks.cons; rfl)))) | refine kD ?_ | refine kE ?_ | (refine kN (hS) (kP rfl) ?_) | (refine kO (hS) (kP rfl) ?_) | refine kF ?_); simp (decide := true) only [go_sem, reduceIte, reduceCtorEq, jA, jB, jC, jD, jE, jF, hlt, hw, hs, t6, hkm, hz, htm, List.drop_zero, Int.toNat_natCast, Ent.row, Sns.enc]) | (apply kG; (simp (decide := true) only [go_sem, reduceIte, reduceCtorEq, jA, jB, jC, jD, jE, jF, hlt, hw, hs, t6, hkm, hz, htm, List.drop_zero, Int.toNat_natCast, Ent.row, Sns.enc]; rfl); all_goals (intro hcnd; first | (exact absurd hcnd (by decide)) | skip)) | ((first | refine kH ?_ ?_ | refine kI ?_ ?_) <;> (intro hcnd; simp (decide := true) only [go_sem, reduceIte, reduceCtorEq, jA, jB, jC, jD, jE, jF, hcnd, hlt, hw, hs, t6, hkm, hz, htm, List.drop_zero, Int.toNat_natCast, Ent.row, Sns.enc]))))
          exact ⟨by rw [htk]; exact hi, kM rfl (by simp (decide := true) only [go_sem, reduceIte, reduceCtorEq, jA, jB, jC, jD, jE, jF]) (by simp (decide := true) only [go_sem, reduceIte, reduceCtorEq, jA, jB, jC, jD, jE, jF, Ent.row])⟩
      · intro hlt hi
        (repeat' (first | refine kA ?_ | refine kB ?_ | ((first | (refine kC (N := 55) rfl (by kernel_rfl) ?_) | (apply kJ (id := 12) (N := 55) kpm1; kernel_rfl; rfl; kernel_rfl; (repeat (first | exact Picks.nil | (apply Picks.cons; rfl)))) | refine kD ?_ | refine kE ?_ | refine kF ?_); simp (decide := true) only [go_sem, reduceIte, reduceCtorEq, jA, jB, jC, jD, jE, jF, hlt, Ent.row]) | (apply kG; (simp (decide := true) only [go_sem, reduceIte, reduceCtorEq, jA, jB, jC, jD, jE, jF, hlt, Ent.row]; rfl); all_goals (intro hcnd; first | (exact absurd hcnd (by decide)) | skip)) | ((first | refine kH ?_ ?_ | refine kI ?_ ?_) <;> (intro hcnd; simp (decide := true) only [go_sem, reduceIte, reduceCtorEq, jA, jB, jC, jD, jE, jF, hcnd, hlt, Ent.row]))))
        rw [← hi]; simp [sensL]

set_option maxRecDepth 10000 in

set_option maxHeartbeats 8000000 in
theorem rSenses_D (e : Ent) (hs2 : ∀ s ∈ e.senses, s.gloss.size ≤ 1048576 ∧ s.txt.size ≤ 1048576) : DCalls Tryd.prog 45 [.agg e.row] (dv (li (sensesE e))) := by
  have hmax : maxLen = 9223372036854775807 := rfl
  refine dcalls_grant (p := OkE e ∧ True) (by kernel_rfl) (fun w K h => ?_) fun he => ?_
  · obtain ⟨v, hv⟩ := h (.agg e.row) (by simp)
    exact ⟨okE_of hv, trivial⟩
  have hI := rIdent_D e.main
  refine dcalls (N := 52) (rs := [.tmp 2]) (by kernel_rfl) Tryd.func45 rfl rfl rfl (by simp) ?_
  rcases Bool.eq_false_or_eq_true (e.main != 0) with t1 | t1
  · have n1 : e.main ≠ 0 := by simpa using t1
    have t5' : (e.main == 0) = false := by simpa using n1
    cases t2 : ident e.main
    · rw [t2] at hI
      (repeat' (first | refine kA ?_ | refine kB ?_ | ((first | (refine kC (N := 52) rfl (by kernel_rfl) ?_) | (apply kJ (id := 12) (N := 52) kpm9; kernel_rfl; rfl; kernel_rfl; (repeat (first | exact Picks.nil | (apply Picks.cons; rfl)))) | refine kD ?_ | refine kE ?_ | (refine kN (hI) (kP rfl) ?_) | (refine kO (hI) (kP rfl) ?_) | refine kF ?_); simp (decide := true) only [go_sem, reduceIte, reduceCtorEq, jA, jB, jC, jD, jE, jF, t1, Ent.row]) | (apply kG; (simp (decide := true) only [go_sem, reduceIte, reduceCtorEq, jA, jB, jC, jD, jE, jF, t1, Ent.row]; rfl); all_goals (intro hcnd; first | (exact absurd hcnd (by decide)) | skip)) | ((first | refine kH ?_ ?_ | refine kI ?_ ?_) <;> (intro hcnd; simp (decide := true) only [go_sem, reduceIte, reduceCtorEq, jA, jB, jC, jD, jE, jF, hcnd, t1, Ent.row]))))
      rw [sensesE, if_pos ⟨n1, t2⟩]
    rw [t2] at hI
    have m1 : ¬ (e.main ≠ 0 ∧ ident e.main = false) := by simp [t2]
    rcases Bool.eq_false_or_eq_true (e.main == e.id) with t3 | t3
    · (repeat' (first | refine kA ?_ | refine kB ?_ | ((first | (refine kC (N := 52) rfl (by kernel_rfl) ?_) | (apply kJ (id := 12) (N := 52) kpm9; kernel_rfl; rfl; kernel_rfl; (repeat (first | exact Picks.nil | (apply Picks.cons; rfl)))) | refine kD ?_ | refine kE ?_ | (refine kN (hI) (kP rfl) ?_) | (refine kO (hI) (kP rfl) ?_) | refine kF ?_); simp (decide := true) only [go_sem, reduceIte, reduceCtorEq, jA, jB, jC, jD, jE, jF, t1, t3, Ent.row]) | (apply kG; (simp (decide := true) only [go_sem, reduceIte, reduceCtorEq, jA, jB, jC, jD, jE, jF, t1, t3, Ent.row]; rfl); all_goals (intro hcnd; first | (exact absurd hcnd (by decide)) | skip)) | ((first | refine kH ?_ ?_ | refine kI ?_ ?_) <;> (intro hcnd; simp (decide := true) only [go_sem, reduceIte, reduceCtorEq, jA, jB, jC, jD, jE, jF, hcnd, t1, t3, Ent.row]))))
      rw [sensesE, if_neg m1, if_pos (by simpa using t3)]
    have m3 : ¬ e.main = e.id := by simpa using t3
    rcases Bool.eq_false_or_eq_true (decide ((5 : Int) < (e.senses.length : Int))) with t4 | t4
    · (repeat' (first | refine kA ?_ | refine kB ?_ | ((first | (refine kC (N := 52) rfl (by kernel_rfl) ?_) | (apply kJ (id := 12) (N := 52) kpm9; kernel_rfl; rfl; kernel_rfl; (repeat (first | exact Picks.nil | (apply Picks.cons; rfl)))) | refine kD ?_ | refine kE ?_ | (refine kN (hI) (kP rfl) ?_) | (refine kO (hI) (kP rfl) ?_) | refine kF ?_); simp (decide := true) only [go_sem, reduceIte, reduceCtorEq, jA, jB, jC, jD, jE, jF, t1, t3, t4, Ent.row]) | (apply kG; (simp (decide := true) only [go_sem, reduceIte, reduceCtorEq, jA, jB, jC, jD, jE, jF, t1, t3, t4, Ent.row]; rfl); all_goals (intro hcnd; first | (exact absurd hcnd (by decide)) | skip)) | ((first | refine kH ?_ ?_ | refine kI ?_ ?_) <;> (intro hcnd; simp (decide := true) only [go_sem, reduceIte, reduceCtorEq, jA, jB, jC, jD, jE, jF, hcnd, t1, t3, t4, Ent.row]))))
      rw [sensesE, if_neg m1, if_neg m3, if_pos (by have := of_decide_eq_true t4; omega)]
    have m4 : ¬ 5 < e.senses.length := by have := of_decide_eq_false t4; omega
    rcases Bool.eq_false_or_eq_true ((e.senses.length : Int) == 0) with t5 | t5
    · (repeat' (first | refine kA ?_ | refine kB ?_ | ((first | (refine kC (N := 52) rfl (by kernel_rfl) ?_) | (apply kJ (id := 12) (N := 52) kpm9; kernel_rfl; rfl; kernel_rfl; (repeat (first | exact Picks.nil | (apply Picks.cons; rfl)))) | refine kD ?_ | refine kE ?_ | (refine kN (hI) (kP rfl) ?_) | (refine kO (hI) (kP rfl) ?_)); simp (decide := true) only [go_sem, reduceIte, reduceCtorEq, jA, jB, jC, jD, jE, jF, t1, t3, t4, t5, t5', Ent.row]) | (apply kG; (simp (decide := true) only [go_sem, reduceIte, reduceCtorEq, jA, jB, jC, jD, jE, jF, t1, t3, t4, t5, t5', Ent.row]; rfl); all_goals (intro hcnd; first | (exact absurd hcnd (by decide)) | skip)) | ((first | refine kH ?_ ?_ | refine kI ?_ ?_) <;> (intro hcnd; simp (decide := true) only [go_sem, reduceIte, reduceCtorEq, jA, jB, jC, jD, jE, jF, hcnd, t1, t3, t4, t5, t5', Ent.row]))))
      refine dw_rngI e.senses (fun k => kn 52 [(1, .one (.bx 1 8 0 0)), (3, dv (li k))] (ml [(1, [e.row])])) (fun k => sensL (e.senses.take k) (e.senses.drop k) = sensesE e) he.1.senses (kM rfl (by simp (decide := true) only [go_sem, reduceIte, reduceCtorEq, jA, jB, jC, jD, jE, jF]) (by simp (decide := true) only [go_sem, reduceIte, reduceCtorEq, jA, jB, jC, jD, jE, jF, Ent.row])) (by rw [sensesE, if_neg m1, if_neg m3, if_neg m4, if_neg (by simp [n1])]; simp) ?_ ?_
      · intro k s hs hk hm htk hlt hw hi
        rw [drop_at hs, sensL] at hi
        have hkm : (k ≤ e.senses.length) = True := eq_true (by omega)
        have hz : (0 ≤ k) = True := eq_true (Nat.zero_le k)
        have htm : List.take k (e.senses.map Sns.enc) = (e.senses.take k).map Sns.enc := (List.map_take ..).symm
        have hkl : (e.senses.take k).length ≤ maxLen := by rw [List.length_take]; have := he.1.senses; omega
        have hS := rSense_D (e.senses.take k) s hkl (hs2 s hm).1 (hs2 s hm).2
        simp only [Sns.row] at hS
        rcases Bool.eq_false_or_eq_true (senseE (e.senses.take k) s != 0) with t6 | t6
        · have n6 : senseE (e.senses.take k) s ≠ 0 := by simpa using t6
          rw [if_pos n6] at hi
          (repeat' (first | refine kA ?_ | refine kB ?_ | ((first | (refine kC (N := 52) rfl (by kernel_rfl) ?_) | (apply kJ (id := 12) (N := 52) kpm9; kernel_rfl; rfl; kernel_rfl; (repeat (first | exact Picks.nil | (apply Picks.cons; rfl)))) | refine kD ?_ | refine kE ?_ | (refine kN (hS) (kP rfl) ?_) | (refine kO (hS) (kP rfl) ?_) | refine kF ?_); simp (decide := true) only [go_sem, reduceIte, reduceCtorEq, jA, jB, jC, jD, jE, jF, hlt, hw, hs, t6, hkm, hz, htm, List.drop_zero, Int.toNat_natCast, Ent.row, Sns.enc]) | (apply kG; (simp (decide := true) only [go_sem, reduceIte, reduceCtorEq, jA, jB, jC, jD, jE, jF, hlt, hw, hs, t6, hkm, hz, htm, List.drop_zero, Int.toNat_natCast, Ent.row, Sns.enc]; rfl); all_goals (intro hcnd; first | (exact absurd hcnd (by decide)) | skip)) | ((first | refine kH ?_ ?_ | refine kI ?_ ?_) <;> (intro hcnd; simp (decide := true) only [go_sem, reduceIte, reduceCtorEq, jA, jB, jC, jD, jE, jF, hcnd, hlt, hw, hs, t6, hkm, hz, htm, List.drop_zero, Int.toNat_natCast, Ent.row, Sns.enc]))))
          rw [hi]
        · have n6 : ¬ senseE (e.senses.take k) s ≠ 0 := by simpa using t6
          rw [if_neg n6] at hi
          (repeat' (first | refine kA ?_ | refine kB ?_ | ((first | (refine kC (N := 52) rfl (by kernel_rfl) ?_) | (apply kJ (id := 12) (N := 52) kpm9; kernel_rfl; rfl; kernel_rfl; (repeat (first | exact Picks.nil | (apply Picks.cons; rfl)))) | refine kD ?_ | refine kE ?_ | (refine kN (hS) (kP rfl) ?_) | (refine kO (hS) (kP rfl) ?_) | refine kF ?_); simp (decide := true) only [go_sem, reduceIte, reduceCtorEq, jA, jB, jC, jD, jE, jF, hlt, hw, hs, t6, hkm, hz, htm, List.drop_zero, Int.toNat_natCast, Ent.row, Sns.enc]) | (apply kG; (simp (decide := true) only [go_sem, reduceIte, reduceCtorEq, jA, jB, jC, jD, jE, jF, hlt, hw, hs, t6, hkm, hz, htm, List.drop_zero, Int.toNat_natCast, Ent.row, Sns.enc]; rfl); all_goals (intro hcnd; first | (exact absurd hcnd (by decide)) | skip)) | ((first | refine kH ?_ ?_ | refine kI ?_ ?_) <;> (intro hcnd; simp (decide := true) only [go_sem, reduceIte, reduceCtorEq, jA, jB, jC, jD, jE, jF, hcnd, hlt, hw, hs, t6, hkm, hz, htm, List.drop_zero, Int.toNat_natCast, Ent.row, Sns.enc]))))
          exact ⟨by rw [htk]; exact hi, kM rfl (by simp (decide := true) only [go_sem, reduceIte, reduceCtorEq, jA, jB, jC, jD, jE, jF]) (by simp (decide := true) only [go_sem, reduceIte, reduceCtorEq, jA, jB, jC, jD, jE, jF, Ent.row])⟩
      · intro hlt hi
        (repeat' (first | refine kA ?_ | refine kB ?_ | ((first | (refine kC (N := 52) rfl (by kernel_rfl) ?_) | (apply kJ (id := 12) (N := 52) kpm9; kernel_rfl; rfl; kernel_rfl; (repeat (first | exact Picks.nil | (apply Picks.cons; rfl)))) | refine kD ?_ | refine kE ?_ | refine kF ?_); simp (decide := true) only [go_sem, reduceIte, reduceCtorEq, jA, jB, jC, jD, jE, jF, hlt, Ent.row]) | (apply kG; (simp (decide := true) only [go_sem, reduceIte, reduceCtorEq, jA, jB, jC, jD, jE, jF, hlt, Ent.row]; rfl); all_goals (intro hcnd; first | (exact absurd hcnd (by decide)) | skip)) | ((first | refine kH ?_ ?_ | refine kI ?_ ?_) <;> (intro hcnd; simp (decide := true) only [go_sem, reduceIte, reduceCtorEq, jA, jB, jC, jD, jE, jF, hcnd, hlt, Ent.row]))))
        rw [← hi]; simp [sensL]
    · (repeat' (first | refine kA ?_ | refine kB ?_ | ((first | (refine kC (N := 52) rfl (by kernel_rfl) ?_) | (apply kJ (id := 12) (N := 52) kpm9; kernel_rfl; rfl; kernel_rfl; (repeat (first | exact Picks.nil | (apply Picks.cons; rfl)))) | refine kD ?_ | refine kE ?_ | (refine kN (hI) (kP rfl) ?_) | (refine kO (hI) (kP rfl) ?_)); simp (decide := true) only [go_sem, reduceIte, reduceCtorEq, jA, jB, jC, jD, jE, jF, t1, t3, t4, t5, t5', Ent.row]) | (apply kG; (simp (decide := true) only [go_sem, reduceIte, reduceCtorEq, jA, jB, jC, jD, jE, jF, t1, t3, t4, t5, t5', Ent.row]; rfl); all_goals (intro hcnd; first | (exact absurd hcnd (by decide)) | skip)) | ((first | refine kH ?_ ?_ | refine kI ?_ ?_) <;> (intro hcnd; simp (decide := true) only [go_sem, reduceIte, reduceCtorEq, jA, jB, jC, jD, jE, jF, hcnd, t1, t3, t4, t5, t5', Ent.row]))))
      refine dw_rngI e.senses (fun k => kn 52 [(1, .one (.bx 1 8 0 0)), (3, dv (li k))] (ml [(1, [e.row])])) (fun k => sensL (e.senses.take k) (e.senses.drop k) = sensesE e) he.1.senses (kM rfl (by simp (decide := true) only [go_sem, reduceIte, reduceCtorEq, jA, jB, jC, jD, jE, jF]) (by simp (decide := true) only [go_sem, reduceIte, reduceCtorEq, jA, jB, jC, jD, jE, jF, Ent.row])) (by rw [sensesE, if_neg m1, if_neg m3, if_neg m4, if_neg (by simp [n1])]; simp) ?_ ?_
      · intro k s hs hk hm htk hlt hw hi
        rw [drop_at hs, sensL] at hi
        have hkm : (k ≤ e.senses.length) = True := eq_true (by omega)
        have hz : (0 ≤ k) = True := eq_true (Nat.zero_le k)
        have htm : List.take k (e.senses.map Sns.enc) = (e.senses.take k).map Sns.enc := (List.map_take ..).symm
        have hkl : (e.senses.take k).length ≤ maxLen := by rw [List.length_take]; have := he.1.senses; omega
        have hS := rSense_D (e.senses.take k) s hkl (hs2 s hm).1 (hs2 s hm).2
        simp only [Sns.row] at hS
        rcases Bool.eq_false_or_eq_true (senseE (e.senses.take k) s != 0) with t6 | t6
        · have n6 : senseE (e.senses.take k) s ≠ 0 := by simpa using t6
          rw [if_pos n6] at hi
          (repeat' (first | refine kA ?_ | refine kB ?_ | ((first | (refine kC (N := 52) rfl (by kernel_rfl) ?_) | (apply kJ (id := 12) (N := 52) kpm9; kernel_rfl; rfl; kernel_rfl; (repeat (first | exact Picks.nil | (apply Picks.cons; rfl)))) | refine kD ?_ | refine kE ?_ | (refine kN (hS) (kP rfl) ?_) | (refine kO (hS) (kP rfl) ?_) | refine kF ?_); simp (decide := true) only [go_sem, reduceIte, reduceCtorEq, jA, jB, jC, jD, jE, jF, hlt, hw, hs, t6, hkm, hz, htm, List.drop_zero, Int.toNat_natCast, Ent.row, Sns.enc]) | (apply kG; (simp (decide := true) only [go_sem, reduceIte, reduceCtorEq, jA, jB, jC, jD, jE, jF, hlt, hw, hs, t6, hkm, hz, htm, List.drop_zero, Int.toNat_natCast, Ent.row, Sns.enc]; rfl); all_goals (intro hcnd; first | (exact absurd hcnd (by decide)) | skip)) | ((first | refine kH ?_ ?_ | refine kI ?_ ?_) <;> (intro hcnd; simp (decide := true) only [go_sem, reduceIte, reduceCtorEq, jA, jB, jC, jD, jE, jF, hcnd, hlt, hw, hs, t6, hkm, hz, htm, List.drop_zero, Int.toNat_natCast, Ent.row, Sns.enc]))))
          rw [hi]
        · have n6 : ¬ senseE (e.senses.take k) s ≠ 0 := by simpa using t6
          rw [if_neg n6] at hi
          (repeat' (first | refine kA ?_ | refine kB ?_ | ((first | (refine kC (N := 52) rfl (by kernel_rfl) ?_) | (apply kJ (id := 12) (N := 52) kpm9; kernel_rfl; rfl; kernel_rfl; (repeat (first | exact Picks.nil | (apply Picks.cons; rfl)))) | refine kD ?_ | refine kE ?_ | (refine kN (hS) (kP rfl) ?_) | (refine kO (hS) (kP rfl) ?_) | refine kF ?_); simp (decide := true) only [go_sem, reduceIte, reduceCtorEq, jA, jB, jC, jD, jE, jF, hlt, hw, hs, t6, hkm, hz, htm, List.drop_zero, Int.toNat_natCast, Ent.row, Sns.enc]) | (apply kG; (simp (decide := true) only [go_sem, reduceIte, reduceCtorEq, jA, jB, jC, jD, jE, jF, hlt, hw, hs, t6, hkm, hz, htm, List.drop_zero, Int.toNat_natCast, Ent.row, Sns.enc]; rfl); all_goals (intro hcnd; first | (exact absurd hcnd (by decide)) | skip)) | ((first | refine kH ?_ ?_ | refine kI ?_ ?_) <;> (intro hcnd; simp (decide := true) only [go_sem, reduceIte, reduceCtorEq, jA, jB, jC, jD, jE, jF, hcnd, hlt, hw, hs, t6, hkm, hz, htm, List.drop_zero, Int.toNat_natCast, Ent.row, Sns.enc]))))
          exact ⟨by rw [htk]; exact hi, kM rfl (by simp (decide := true) only [go_sem, reduceIte, reduceCtorEq, jA, jB, jC, jD, jE, jF]) (by simp (decide := true) only [go_sem, reduceIte, reduceCtorEq, jA, jB, jC, jD, jE, jF, Ent.row])⟩
      · intro hlt hi
        (repeat' (first | refine kA ?_ | refine kB ?_ | ((first | (refine kC (N := 52) rfl (by kernel_rfl) ?_) | (apply kJ (id := 12) (N := 52) kpm9; kernel_rfl; rfl; kernel_rfl; (repeat (first | exact Picks.nil | (apply Picks.cons; rfl)))) | refine kD ?_ | refine kE ?_ | refine kF ?_); simp (decide := true) only [go_sem, reduceIte, reduceCtorEq, jA, jB, jC, jD, jE, jF, hlt, Ent.row]) | (apply kG; (simp (decide := true) only [go_sem, reduceIte, reduceCtorEq, jA, jB, jC, jD, jE, jF, hlt, Ent.row]; rfl); all_goals (intro hcnd; first | (exact absurd hcnd (by decide)) | skip)) | ((first | refine kH ?_ ?_ | refine kI ?_ ?_) <;> (intro hcnd; simp (decide := true) only [go_sem, reduceIte, reduceCtorEq, jA, jB, jC, jD, jE, jF, hcnd, hlt, Ent.row]))))
        rw [← hi]; simp [sensL]
  · have n1 : e.main = 0 := by simpa using t1
    have t5' : (e.main == 0) = true := by simpa using n1
    have m1 : ¬ (e.main ≠ 0 ∧ ident e.main = false) := by simp [n1]
    rcases Bool.eq_false_or_eq_true (e.main == e.id) with t3 | t3
    · (repeat' (first | refine kA ?_ | refine kB ?_ | ((first | (refine kC (N := 52) rfl (by kernel_rfl) ?_) | (apply kJ (id := 12) (N := 52) kpm9; kernel_rfl; rfl; kernel_rfl; (repeat (first | exact Picks.nil | (apply Picks.cons; rfl)))) | refine kD ?_ | refine kE ?_ | refine kF ?_); simp (decide := true) only [go_sem, reduceIte, reduceCtorEq, jA, jB, jC, jD, jE, jF, t1, t3, Ent.row]) | (apply kG; (simp (decide := true) only [go_sem, reduceIte, reduceCtorEq, jA, jB, jC, jD, jE, jF, t1, t3, Ent.row]; rfl); all_goals (intro hcnd; first | (exact absurd hcnd (by decide)) | skip)) | ((first | refine kH ?_ ?_ | refine kI ?_ ?_) <;> (intro hcnd; simp (decide := true) only [go_sem, reduceIte, reduceCtorEq, jA, jB, jC, jD, jE, jF, hcnd, t1, t3, Ent.row]))))
      rw [sensesE, if_neg m1, if_pos (by simpa using t3)]
    have m3 : ¬ e.main = e.id := by simpa using t3
    rcases Bool.eq_false_or_eq_true (decide ((5 : Int) < (e.senses.length : Int))) with t4 | t4
    · (repeat' (first | refine kA ?_ | refine kB ?_ | ((first | (refine kC (N := 52) rfl (by kernel_rfl) ?_) | (apply kJ (id := 12) (N := 52) kpm9; kernel_rfl; rfl; kernel_rfl; (repeat (first | exact Picks.nil | (apply Picks.cons; rfl)))) | refine kD ?_ | refine kE ?_ | refine kF ?_); simp (decide := true) only [go_sem, reduceIte, reduceCtorEq, jA, jB, jC, jD, jE, jF, t1, t3, t4, Ent.row]) | (apply kG; (simp (decide := true) only [go_sem, reduceIte, reduceCtorEq, jA, jB, jC, jD, jE, jF, t1, t3, t4, Ent.row]; rfl); all_goals (intro hcnd; first | (exact absurd hcnd (by decide)) | skip)) | ((first | refine kH ?_ ?_ | refine kI ?_ ?_) <;> (intro hcnd; simp (decide := true) only [go_sem, reduceIte, reduceCtorEq, jA, jB, jC, jD, jE, jF, hcnd, t1, t3, t4, Ent.row]))))
      rw [sensesE, if_neg m1, if_neg m3, if_pos (by have := of_decide_eq_true t4; omega)]
    have m4 : ¬ 5 < e.senses.length := by have := of_decide_eq_false t4; omega
    rcases Bool.eq_false_or_eq_true ((e.senses.length : Int) == 0) with t5 | t5
    · have n5 : e.senses.length = 0 := by have := beq_iff_eq.1 t5; omega
      (repeat' (first | refine kA ?_ | refine kB ?_ | ((first | (refine kC (N := 52) rfl (by kernel_rfl) ?_) | (apply kJ (id := 12) (N := 52) kpm9; kernel_rfl; rfl; kernel_rfl; (repeat (first | exact Picks.nil | (apply Picks.cons; rfl)))) | refine kD ?_ | refine kE ?_ | refine kF ?_); simp (decide := true) only [go_sem, reduceIte, reduceCtorEq, jA, jB, jC, jD, jE, jF, t1, t3, t4, t5, t5', Ent.row]) | (apply kG; (simp (decide := true) only [go_sem, reduceIte, reduceCtorEq, jA, jB, jC, jD, jE, jF, t1, t3, t4, t5, t5', Ent.row]; rfl); all_goals (intro hcnd; first | (exact absurd hcnd (by decide)) | skip)) | ((first | refine kH ?_ ?_ | refine kI ?_ ?_) <;> (intro hcnd; simp (decide := true) only [go_sem, reduceIte, reduceCtorEq, jA, jB, jC, jD, jE, jF, hcnd, t1, t3, t4, t5, t5', Ent.row]))))
      rw [sensesE, if_neg m1, if_neg m3, if_neg m4, if_pos ⟨n5, n1⟩]
    · have n5 : ¬ e.senses.length = 0 := by have := beq_eq_false_iff_ne.1 t5; omega
      (repeat' (first | refine kA ?_ | refine kB ?_ | ((first | (refine kC (N := 52) rfl (by kernel_rfl) ?_) | (apply kJ (id := 12) (N := 52) kpm9; kernel_rfl; rfl; kernel_rfl; (repeat (first | exact Picks.nil | (apply Picks.cons; rfl)))) | refine kD ?_ | refine kE ?_); simp (decide := true) only [go_sem, reduceIte, reduceCtorEq, jA, jB, jC, jD, jE, jF, t1, t3, t4, t5, t5', Ent.row]) | (apply kG; (simp (decide := true) only [go_sem, reduceIte, reduceCtorEq, jA, jB, jC, jD, jE, jF, t1, t3, t4, t5, t5', Ent.row]; rfl); all_goals (intro hcnd; first | (exact absurd hcnd (by decide)) | skip)) | ((first | refine kH ?_ ?_ | refine kI ?_ ?_) <;> (intro hcnd; simp (decide := true) only [go_sem, reduceIte, reduceCtorEq, jA, jB, jC, jD, jE, jF, hcnd, t1, t3, t4, t5, t5', Ent.row]))))
      refine dw_rngI e.senses (fun k => kn 52 [(1, .one (.bx 1 8 0 0)), (3, dv (li k))] (ml [(1, [e.row])])) (fun k => sensL (e.senses.take k) (e.senses.drop k) = sensesE e) he.1.senses (kM rfl (by simp (decide := true) only [go_sem, reduceIte, reduceCtorEq, jA, jB, jC, jD, jE, jF]) (by simp (decide := true) only [go_sem, reduceIte, reduceCtorEq, jA, jB, jC, jD, jE, jF, Ent.row])) (by rw [sensesE, if_neg m1, if_neg m3, if_neg m4, if_neg (by simp [n5])]; simp) ?_ ?_
      · intro k s hs hk hm htk hlt hw hi
        rw [drop_at hs, sensL] at hi
        have hkm : (k ≤ e.senses.length) = True := eq_true (by omega)
        have hz : (0 ≤ k) = True := eq_true (Nat.zero_le k)
        have htm : List.take k (e.senses.map Sns.enc) = (e.senses.take k).map Sns.enc := (List.map_take ..).symm
        have hkl : (e.senses.take k).length ≤ maxLen := by rw [List.length_take]; have := he.1.senses; omega
        have hS := rSense_D (e.senses.take k) s hkl (hs2 s hm).1 (hs2 s hm).2
        simp only [Sns.row] at hS
        rcases Bool.eq_false_or_eq_true (senseE (e.senses.take k) s != 0) with t6 | t6
        · have n6 : senseE (e.senses.take k) s ≠ 0 := by simpa using t6
          rw [if_pos n6] at hi
          (repeat' (first | refine kA ?_ | refine kB ?_ | ((first | (refine kC (N := 52) rfl (by kernel_rfl) ?_) | (apply kJ (id := 12) (N := 52) kpm9; kernel_rfl; rfl; kernel_rfl; (repeat (first | exact Picks.nil | (apply Picks.cons; rfl)))) | refine kD ?_ | refine kE ?_ | (refine kN (hS) (kP rfl) ?_) | (refine kO (hS) (kP rfl) ?_) | refine kF ?_); simp (decide := true) only [go_sem, reduceIte, reduceCtorEq, jA, jB, jC, jD, jE, jF, hlt, hw, hs, t6, hkm, hz, htm, List.drop_zero, Int.toNat_natCast, Ent.row, Sns.enc]) | (apply kG; (simp (decide := true) only [go_sem, reduceIte, reduceCtorEq, jA, jB, jC, jD, jE, jF, hlt, hw, hs, t6, hkm, hz, htm, List.drop_zero, Int.toNat_natCast, Ent.row, Sns.enc]; rfl); all_goals (intro hcnd; first | (exact absurd hcnd (by decide)) | skip)) | ((first | refine kH ?_ ?_ | refine kI ?_ ?_) <;> (intro hcnd; simp (decide := true) only [go_sem, reduceIte, reduceCtorEq, jA, jB, jC, jD, jE, jF, hcnd, hlt, hw, hs, t6, hkm, hz, htm, List.drop_zero, Int.toNat_natCast, Ent.row, Sns.enc]))))
          rw [hi]
        · have n6 : ¬ senseE (e.senses.take k) s ≠ 0 := by simpa using t6
          rw [if_neg n6] at hi
          (repeat' (first | refine kA ?_ | refine kB ?_ | ((first | (refine kC (N := 52) rfl (by kernel_rfl) ?_) | (apply kJ (id := 12) (N := 52) kpm9; kernel_rfl; rfl; kernel_rfl; (repeat (first | exact Picks.nil | (apply Picks.cons; rfl)))) | refine kD ?_ | refine kE ?_ | (refine kN (hS) (kP rfl) ?_) | (refine kO (hS) (kP rfl) ?_) | refine kF ?_); simp (decide := true) only [go_sem, reduceIte, reduceCtorEq, jA, jB, jC, jD, jE, jF, hlt, hw, hs, t6, hkm, hz, htm, List.drop_zero, Int.toNat_natCast, Ent.row, Sns.enc]) | (apply kG; (simp (decide := true) only [go_sem, reduceIte, reduceCtorEq, jA, jB, jC, jD, jE, jF, hlt, hw, hs, t6, hkm, hz, htm, List.drop_zero, Int.toNat_natCast, Ent.row, Sns.enc]; rfl); all_goals (intro hcnd; first | (exact absurd hcnd (by decide)) | skip)) | ((first | refine kH ?_ ?_ | refine kI ?_ ?_) <;> (intro hcnd; simp (decide := true) only [go_sem, reduceIte, reduceCtorEq, jA, jB, jC, jD, jE, jF, hcnd, hlt, hw, hs, t6, hkm, hz, htm, List.drop_zero, Int.toNat_natCast, Ent.row, Sns.enc]))))
          exact ⟨by rw [htk]; exact hi, kM rfl (by simp (decide := true) only [go_sem, reduceIte, reduceCtorEq, jA, jB, jC, jD, jE, jF]) (by simp (decide := true) only [go_sem, reduceIte, reduceCtorEq, jA, jB, jC, jD, jE, jF, Ent.row])⟩
      · intro hlt hi
        (repeat' (first | refine kA ?_ | refine kB ?_ | ((first | (refine kC (N := 52) rfl (by kernel_rfl) ?_) | (apply kJ (id := 12) (N := 52) kpm9; kernel_rfl; rfl; kernel_rfl; (repeat (first | exact Picks.nil | (apply Picks.cons; rfl)))) | refine kD ?_ | refine kE ?_ | refine kF ?_); simp (decide := true) only [go_sem, reduceIte, reduceCtorEq, jA, jB, jC, jD, jE, jF, hlt, Ent.row]) | (apply kG; (simp (decide := true) only [go_sem, reduceIte, reduceCtorEq, jA, jB, jC, jD, jE, jF, hlt, Ent.row]; rfl); all_goals (intro hcnd; first | (exact absurd hcnd (by decide)) | skip)) | ((first | refine kH ?_ ?_ | refine kI ?_ ?_) <;> (intro hcnd; simp (decide := true) only [go_sem, reduceIte, reduceCtorEq, jA, jB, jC, jD, jE, jF, hcnd, hlt, Ent.row]))))
        rw [← hi]; simp [sensL]

end Go.Proofs.YtiaamlaibfpdgaaDoor

namespace Go.Proofs.YtiaamlaibfpdgaaDoor
abbrev kpm10 : List (Nat × Go.Dl.Mode) := [(0, .light), (1, .light), (2, .light), (3, .light), (4, .light), (5, .light), (6, .light), (7, .light), (8, .light), (9, .step), (10, .light), (11, .step), (12, .light)]
abbrev kpm11 : List (Nat × Go.Dl.Mode) := [(0, .light), (1, .light), (2, .light), (3, .light), (4, .light), (5, .light), (6, .light), (7, .light), (8, .light), (9, .light), (10, .light), (11, .light), (12, .light), (13, .light), (14, .light), (15, .light), (16, .light), (17, .light), (18, .light), (19, .light), (20, .light), (21, .light), (22, .step), (23, .light), (24, .step), (25, .light), (26, .light), (27, .light)]
end Go.Proofs.YtiaamlaibfpdgaaDoor
/- Entries: links; an order of pairs. -/
namespace Go.Proofs.YtiaamlaibfpdgaaDoor
open Go.Dl
open Go.Dl renaming dw_seq → kA, dw_block → kB, dw_reg → kC, dw_skip → kD, dw_exit → kE, dw_ret → kF, dw_cond → kG, guardC_f → kH, guardC_t → kI, dw_drw → kJ, dw_weaken → kK, sub_kn → kL, sub_ml → kM
open Go.Dl.CallC renaming mk → kN, light → kO
open Go.Dl.LeL renaming of_eq → kP
attribute [local irreducible] DW DCalls ECalls wk IW

set_option maxRecDepth 10000 in

set_option maxHeartbeats 2000000 in
theorem or_D (xs : List Int) (hl : xs.length ≤ maxLen) : DCalls Tryd.prog 72 [dv (.sl 1 (ints xs))] (dv (li (orI xs))) := by
  have hmax : maxLen = 9223372036854775807 := rfl
  refine dcalls (N := 18) (rs := [.tmp 2]) (by kernel_rfl) Tryd.func72 rfl rfl rfl (by simp) ?_
  (repeat (first | refine kA ?_ | refine kB ?_ | ((first | (refine kC (N := 18) rfl (by kernel_rfl) ?_) | refine kD ?_ | refine kE ?_); simp (decide := true) only [go_sem, reduceIte, reduceCtorEq, jA, jB, jC, jD, jE, jF])))
  refine dw_rngI xs (fun k => kn 18 [(3, dv (li 0)), (6, dv (.sl 1 (ints xs))), (7, dv (li xs.length)), (8, dv (li k))] noMem) (fun k => orI (xs.drop k) = orI xs) (by omega) (kL rfl (by simp (decide := true) only [go_sem, reduceIte, reduceCtorEq, jA, jB, jC, jD, jE, jF]) (by simp [noMem])) (by simp) ?_ ?_
  · intro k x hx hk hm htk hlt hw hi
    have hx' := ints_at hx
    rw [drop_at hx, orI] at hi
    rcases Bool.eq_false_or_eq_true (x != 0) with t1 | t1
    · rw [if_neg (by simpa using t1)] at hi
      (repeat' (first | refine kA ?_ | refine kB ?_ | ((first | (refine kC (N := 18) rfl (by kernel_rfl) ?_) | refine kD ?_ | refine kE ?_ | refine kF ?_); simp (decide := true) only [go_sem, reduceIte, reduceCtorEq, jA, jB, jC, jD, jE, jF, hlt, hw, hx', t1]) | (apply kG; (simp (decide := true) only [go_sem, reduceIte, reduceCtorEq, jA, jB, jC, jD, jE, jF, hlt, hw, hx', t1]; rfl); all_goals (intro hcnd; first | (exact absurd hcnd (by decide)) | skip))))
      rw [hi]
    · rw [if_pos (by simpa using t1)] at hi
      (repeat' (first | refine kA ?_ | refine kB ?_ | ((first | (refine kC (N := 18) rfl (by kernel_rfl) ?_) | refine kD ?_ | refine kE ?_ | refine kF ?_); simp (decide := true) only [go_sem, reduceIte, reduceCtorEq, jA, jB, jC, jD, jE, jF, hlt, hw, hx', t1]) | (apply kG; (simp (decide := true) only [go_sem, reduceIte, reduceCtorEq, jA, jB, jC, jD, jE, jF, hlt, hw, hx', t1]; rfl); all_goals (intro hcnd; first | (exact absurd hcnd (by decide)) | skip))))
      exact ⟨hi, kL rfl (by simp (decide := true) only [go_sem, reduceIte, reduceCtorEq, jA, jB, jC, jD, jE, jF]) (by simp [noMem])⟩
  · intro hlt hi
    (repeat' (first | refine kA ?_ | refine kB ?_ | ((first | (refine kC (N := 18) rfl (by kernel_rfl) ?_) | refine kD ?_ | refine kE ?_ | refine kF ?_); simp (decide := true) only [go_sem, reduceIte, reduceCtorEq, jA, jB, jC, jD, jE, jF, hlt]) | (apply kG; (simp (decide := true) only [go_sem, reduceIte, reduceCtorEq, jA, jB, jC, jD, jE, jF, hlt]; rfl); all_goals (intro hcnd; first | (exact absurd hcnd (by decide)) | skip))))
    rw [← hi]; simp [orI]

def ordI (a b : Lnk) : Int := orI [cmpI a.kind b.kind, cmpI a.tgt b.tgt]
theorem ord_less (a b : Lnk) : decide ((0 : Int) ≤ ordI a b) = !lessL a b := by
  unfold ordI lessL orI orI orI cmpI
  rcases Int.lt_trichotomy a.kind b.kind with h | h | h
  · simp [h]
  · rcases Int.lt_trichotomy a.tgt b.tgt with h2 | h2 | h2
    · simp [h, h2]
    · simp [h, h2]
    · have : ¬ a.tgt < b.tgt := by omega
      simp [h, h2, this]
  · have h1 : ¬ a.kind < b.kind := by omega
    have h2 : ¬ a.kind = b.kind := by omega
    simp [h, h1, h2]
theorem ord_neg (a b : Lnk) : decide (ordI a b < 0) = lessL a b := by
  have := ord_less a b
  rw [Bool.eq_iff_iff] at this ⊢
  simp at this ⊢
  cases h : lessL a b <;> rw [h] at this <;> simp at this ⊢ <;> omega

set_option maxRecDepth 10000 in

set_option maxHeartbeats 2000000 in
theorem order_D (a b : Lnk) : DCalls Tryd.prog 61 [.agg a.row, .agg b.row] (dv (li (ordI a b))) := by
  have hO := or_D [cmpI a.kind b.kind, cmpI a.tgt b.tgt] (show 2 ≤ maxLen by decide)
  refine dcalls (N := 17) (rs := [.tmp 4]) (by kernel_rfl) Tryd.func61 rfl rfl rfl (by simp) ?_
  (repeat' (first | refine kA ?_ | refine kB ?_ | ((first | (refine kC (N := 17) rfl (by kernel_rfl) ?_) | (apply kJ (id := 1) (N := 17) kpm10; kernel_rfl; rfl; kernel_rfl; (repeat (first | exact Picks.nil | (apply Picks.cons; rfl)))) | refine kD ?_ | refine kE ?_ | (refine kN (cmp_D a.kind b.kind) (kP rfl) ?_) | (refine kO (cmp_D a.kind b.kind) (kP rfl) ?_) | (refine kN (cmp_D a.tgt b.tgt) (kP rfl) ?_) | (refine kO (cmp_D a.tgt b.tgt) (kP rfl) ?_) | (refine kN (hO) (kP rfl) ?_) | (refine kO (hO) (kP rfl) ?_) | refine kF ?_); simp (decide := true) only [go_sem, reduceIte, reduceCtorEq, jA, jB, jC, jD, jE, jF, Lnk.row]) | (apply kG; (simp (decide := true) only [go_sem, reduceIte, reduceCtorEq, jA, jB, jC, jD, jE, jF, Lnk.row]; rfl); all_goals (intro hcnd; first | (exact absurd hcnd (by decide)) | skip))))
  rfl

def prevAt (l : List Lnk) (k : Nat) : Option Lnk := if k = 0 then none else l[k - 1]?
def badP (p : Option Lnk) (x : Lnk) : Bool := match p with
  | none => false
  | some y => !lessL y x
theorem prev_zero (l : List Lnk) : prevAt l 0 = none := rfl
theorem prev_succ {l : List Lnk} {k : Nat} {x : Lnk} (h : l[k]? = some x) : prevAt l (k + 1) = some x := by simp [prevAt, h]
def linkE (id : Int) (p : Option Lnk) (x : Lnk) : Int := if x.kind < 0 ∨ 5 < x.kind then 14 else if ident x.tgt = false then 2 else if x.tgt = id then 17 else if badP p x = true then 10 else 0
def linkL (id : Int) (p : Option Lnk) : List Lnk → Int
  | [] => 0
  | x :: l => if linkE id p x ≠ 0 then linkE id p x else linkL id (some x) l
def linksE (e : Ent) : Int := if 12 < e.links.length then 11 else linkL e.id none e.links

set_option maxRecDepth 10000 in

set_option maxHeartbeats 8000000 in
theorem links_D (e : Ent) : DCalls Tryd.prog 42 [.agg e.row] (dv (li (linksE e))) := by
  have hmax : maxLen = 9223372036854775807 := rfl
  refine dcalls (N := 66) (rs := [.tmp 2]) (by kernel_rfl) Tryd.func42 rfl rfl rfl (by simp) ?_
  rcases Bool.eq_false_or_eq_true (decide ((12 : Int) < (e.links.length : Int))) with t1 | t1
  · (repeat' (first | refine kA ?_ | refine kB ?_ | ((first | (refine kC (N := 66) rfl (by kernel_rfl) ?_) | (apply kJ (id := 12) (N := 66) kpm11; kernel_rfl; rfl; kernel_rfl; (repeat (first | exact Picks.nil | (apply Picks.cons; rfl)))) | refine kD ?_ | refine kE ?_ | refine kF ?_); simp (decide := true) only [go_sem, reduceIte, reduceCtorEq, jA, jB, jC, jD, jE, jF, t1, Ent.row]) | (apply kG; (simp (decide := true) only [go_sem, reduceIte, reduceCtorEq, jA, jB, jC, jD, jE, jF, t1, Ent.row]; rfl); all_goals (intro hcnd; first | (exact absurd hcnd (by decide)) | skip)) | ((first | refine kH ?_ ?_ | refine kI ?_ ?_) <;> (intro hcnd; simp (decide := true) only [go_sem, reduceIte, reduceCtorEq, jA, jB, jC, jD, jE, jF, hcnd, t1, Ent.row]))))
    rw [linksE, if_pos (by have := of_decide_eq_true t1; omega)]
  have n1 : ¬ 12 < e.links.length := by have := of_decide_eq_false t1; omega
  (repeat' (first | refine kA ?_ | refine kB ?_ | ((first | (refine kC (N := 66) rfl (by kernel_rfl) ?_) | (apply kJ (id := 12) (N := 66) kpm11; kernel_rfl; rfl; kernel_rfl; (repeat (first | exact Picks.nil | (apply Picks.cons; rfl)))) | refine kD ?_ | refine kE ?_); simp (decide := true) only [go_sem, reduceIte, reduceCtorEq, jA, jB, jC, jD, jE, jF, t1, Ent.row]) | (apply kG; (simp (decide := true) only [go_sem, reduceIte, reduceCtorEq, jA, jB, jC, jD, jE, jF, t1, Ent.row]; rfl); all_goals (intro hcnd; first | (exact absurd hcnd (by decide)) | skip)) | ((first | refine kH ?_ ?_ | refine kI ?_ ?_) <;> (intro hcnd; simp (decide := true) only [go_sem, reduceIte, reduceCtorEq, jA, jB, jC, jD, jE, jF, hcnd, t1, Ent.row]))))
  refine dw_rngI e.links (fun k => kn 66 [(1, .one (.bx 1 8 0 0)), (10, dv (.sl 2 (e.links.map Lnk.enc))), (11, dv (li e.links.length)), (12, dv (li k))] (ml [(1, [e.row])])) (fun k => linkL e.id (prevAt e.links k) (e.links.drop k) = linksE e) (by omega) (kM rfl (by simp (decide := true) only [go_sem, reduceIte, reduceCtorEq, jA, jB, jC, jD, jE, jF]) (by simp (decide := true) only [go_sem, reduceIte, reduceCtorEq, jA, jB, jC, jD, jE, jF, Ent.row])) (by rw [linksE, if_neg n1]; simp [prev_zero]) ?_ ?_
  · intro k x hx hk hm htk hlt hw hi
    rw [drop_at hx, linkL] at hi
    have hI := ident_D x.tgt
    rcases Bool.eq_false_or_eq_true (decide (x.kind < 0)) with t2 | t2
    · have n2 := of_decide_eq_true t2
      have hE : linkE e.id (prevAt e.links k) x = 14 := by rw [linkE, if_pos (.inl n2)]
      rw [hE, if_pos (by decide)] at hi
      (repeat' (first | refine kA ?_ | refine kB ?_ | ((first | (refine kC (N := 66) rfl (by kernel_rfl) ?_) | (apply kJ (id := 12) (N := 66) kpm11; kernel_rfl; rfl; kernel_rfl; (repeat (first | exact Picks.nil | (apply Picks.cons; rfl)))) | refine kD ?_ | refine kE ?_ | refine kF ?_); simp (decide := true) only [go_sem, reduceIte, reduceCtorEq, jA, jB, jC, jD, jE, jF, hlt, hw, hx, t2, Ent.row, Lnk.enc]) | (apply kG; (simp (decide := true) only [go_sem, reduceIte, reduceCtorEq, jA, jB, jC, jD, jE, jF, hlt, hw, hx, t2, Ent.row, Lnk.enc]; rfl); all_goals (intro hcnd; first | (exact absurd hcnd (by decide)) | skip)) | ((first | refine kH ?_ ?_ | refine kI ?_ ?_) <;> (intro hcnd; simp (decide := true) only [go_sem, reduceIte, reduceCtorEq, jA, jB, jC, jD, jE, jF, hcnd, hlt, hw, hx, t2, Ent.row, Lnk.enc]))))
      rw [hi]
    have n2 := of_decide_eq_false t2
    rcases Bool.eq_false_or_eq_true (decide ((5 : Int) < x.kind)) with t3 | t3
    · have n3 := of_decide_eq_true t3
      have hE : linkE e.id (prevAt e.links k) x = 14 := by rw [linkE, if_pos (.inr n3)]
      rw [hE, if_pos (by decide)] at hi
      (repeat' (first | refine kA ?_ | refine kB ?_ | ((first | (refine kC (N := 66) rfl (by kernel_rfl) ?_) | (apply kJ (id := 12) (N := 66) kpm11; kernel_rfl; rfl; kernel_rfl; (repeat (first | exact Picks.nil | (apply Picks.cons; rfl)))) | refine kD ?_ | refine kE ?_ | refine kF ?_); simp (decide := true) only [go_sem, reduceIte, reduceCtorEq, jA, jB, jC, jD, jE, jF, hlt, hw, hx, t2, t3, Ent.row, Lnk.enc]) | (apply kG; (simp (decide := true) only [go_sem, reduceIte, reduceCtorEq, jA, jB, jC, jD, jE, jF, hlt, hw, hx, t2, t3, Ent.row, Lnk.enc]; rfl); all_goals (intro hcnd; first | (exact absurd hcnd (by decide)) | skip)) | ((first | refine kH ?_ ?_ | refine kI ?_ ?_) <;> (intro hcnd; simp (decide := true) only [go_sem, reduceIte, reduceCtorEq, jA, jB, jC, jD, jE, jF, hcnd, hlt, hw, hx, t2, t3, Ent.row, Lnk.enc]))))
      rw [hi]
    have n3 := of_decide_eq_false t3
    have n23 : ¬ (x.kind < 0 ∨ 5 < x.kind) := by omega
    cases t4 : ident x.tgt
    · rw [t4] at hI
      have hE : linkE e.id (prevAt e.links k) x = 2 := by rw [linkE, if_neg n23, t4]; rfl
      rw [hE, if_pos (by decide)] at hi
      (repeat' (first | refine kA ?_ | refine kB ?_ | ((first | (refine kC (N := 66) rfl (by kernel_rfl) ?_) | (apply kJ (id := 12) (N := 66) kpm11; kernel_rfl; rfl; kernel_rfl; (repeat (first | exact Picks.nil | (apply Picks.cons; rfl)))) | refine kD ?_ | refine kE ?_ | (refine kN (hI) (kP rfl) ?_) | (refine kO (hI) (kP rfl) ?_) | refine kF ?_); simp (decide := true) only [go_sem, reduceIte, reduceCtorEq, jA, jB, jC, jD, jE, jF, hlt, hw, hx, t2, t3, Ent.row, Lnk.enc]) | (apply kG; (simp (decide := true) only [go_sem, reduceIte, reduceCtorEq, jA, jB, jC, jD, jE, jF, hlt, hw, hx, t2, t3, Ent.row, Lnk.enc]; rfl); all_goals (intro hcnd; first | (exact absurd hcnd (by decide)) | skip)) | ((first | refine kH ?_ ?_ | refine kI ?_ ?_) <;> (intro hcnd; simp (decide := true) only [go_sem, reduceIte, reduceCtorEq, jA, jB, jC, jD, jE, jF, hcnd, hlt, hw, hx, t2, t3, Ent.row, Lnk.enc]))))
      rw [hi]
    rw [t4] at hI
    have n4 : ¬ ident x.tgt = false := by rw [t4]; decide
    rcases Bool.eq_false_or_eq_true (x.tgt == e.id) with t5 | t5
    · have hE : linkE e.id (prevAt e.links k) x = 17 := by rw [linkE, if_neg n23, if_neg n4, if_pos (by simpa using t5)]
      rw [hE, if_pos (by decide)] at hi
      (repeat' (first | refine kA ?_ | refine kB ?_ | ((first | (refine kC (N := 66) rfl (by kernel_rfl) ?_) | (apply kJ (id := 12) (N := 66) kpm11; kernel_rfl; rfl; kernel_rfl; (repeat (first | exact Picks.nil | (apply Picks.cons; rfl)))) | refine kD ?_ | refine kE ?_ | (refine kN (hI) (kP rfl) ?_) | (refine kO (hI) (kP rfl) ?_) | refine kF ?_); simp (decide := true) only [go_sem, reduceIte, reduceCtorEq, jA, jB, jC, jD, jE, jF, hlt, hw, hx, t2, t3, t5, Ent.row, Lnk.enc]) | (apply kG; (simp (decide := true) only [go_sem, reduceIte, reduceCtorEq, jA, jB, jC, jD, jE, jF, hlt, hw, hx, t2, t3, t5, Ent.row, Lnk.enc]; rfl); all_goals (intro hcnd; first | (exact absurd hcnd (by decide)) | skip)) | ((first | refine kH ?_ ?_ | refine kI ?_ ?_) <;> (intro hcnd; simp (decide := true) only [go_sem, reduceIte, reduceCtorEq, jA, jB, jC, jD, jE, jF, hcnd, hlt, hw, hx, t2, t3, t5, Ent.row, Lnk.enc]))))
      rw [hi]
    have n5 : ¬ x.tgt = e.id := by simpa using t5
    have hE5 : linkE e.id (prevAt e.links k) x = if badP (prevAt e.links k) x = true then 10 else 0 := by rw [linkE, if_neg n23, if_neg n4, if_neg n5]
    rw [hE5] at hi
    clear hE5
    rcases Nat.eq_zero_or_pos k with hk0 | hk0
    · have h0 : decide ((0 : Int) < (k : Int)) = false := by simp [hk0]
      have hb : badP (prevAt e.links k) x = false := by rw [hk0]; rfl
      rw [hb, if_neg (by decide)] at hi
      (repeat' (first | refine kA ?_ | refine kB ?_ | ((first | (refine kC (N := 66) rfl (by kernel_rfl) ?_) | (apply kJ (id := 12) (N := 66) kpm11; kernel_rfl; rfl; kernel_rfl; (repeat (first | exact Picks.nil | (apply Picks.cons; rfl)))) | refine kD ?_ | refine kE ?_ | (refine kN (hI) (kP rfl) ?_) | (refine kO (hI) (kP rfl) ?_) | refine kF ?_); simp (decide := true) only [go_sem, reduceIte, reduceCtorEq, jA, jB, jC, jD, jE, jF, hlt, hw, hx, t2, t3, t5, h0, Ent.row, Lnk.enc]) | (apply kG; (simp (decide := true) only [go_sem, reduceIte, reduceCtorEq, jA, jB, jC, jD, jE, jF, hlt, hw, hx, t2, t3, t5, h0, Ent.row, Lnk.enc]; rfl); all_goals (intro hcnd; first | (exact absurd hcnd (by decide)) | skip)) | ((first | refine kH ?_ ?_ | refine kI ?_ ?_) <;> (intro hcnd; simp (decide := true) only [go_sem, reduceIte, reduceCtorEq, jA, jB, jC, jD, jE, jF, hcnd, hlt, hw, hx, t2, t3, t5, h0, Ent.row, Lnk.enc]))))
      exact ⟨by rw [prev_succ hx]; exact hi, kM rfl (by simp (decide := true) only [go_sem, reduceIte, reduceCtorEq, jA, jB, jC, jD, jE, jF]) (by simp (decide := true) only [go_sem, reduceIte, reduceCtorEq, jA, jB, jC, jD, jE, jF, Ent.row])⟩
    · obtain ⟨m, hkm⟩ : ∃ m, k = m + 1 := ⟨k - 1, by omega⟩
      obtain ⟨y, hy⟩ : ∃ y, e.links[m]? = some y := ⟨_, List.getElem?_eq_getElem (by omega)⟩
      have h0 : decide ((0 : Int) < (k : Int)) = true := by simp; omega
      have hwm : IntKind.i64.wrap ((k : Int) - 1) = (m : Int) := by rw [show (k : Int) - 1 = (m : Int) by omega]; exact wrap64n (by omega)
      have hO := or_D [cmpI y.kind x.kind, cmpI y.tgt x.tgt] (show 2 ≤ maxLen by decide)
      have hord := ord_less y x
      rw [ordI] at hord
      cases t7 : lessL y x
      · rw [t7] at hord
        have hb : badP (prevAt e.links k) x = true := by rw [hkm, prev_succ hy, badP, t7]; rfl
        rw [hb, if_pos (by decide), if_pos rfl] at hi
        (repeat' (first | refine kA ?_ | refine kB ?_ | ((first | (refine kC (N := 66) rfl (by kernel_rfl) ?_) | (apply kJ (id := 12) (N := 66) kpm11; kernel_rfl; rfl; kernel_rfl; (repeat (first | exact Picks.nil | (apply Picks.cons; rfl)))) | refine kD ?_ | refine kE ?_ | (refine kN (hI) (kP rfl) ?_) | (refine kO (hI) (kP rfl) ?_) | (refine kN (cmp_D y.kind x.kind) (kP rfl) ?_) | (refine kO (cmp_D y.kind x.kind) (kP rfl) ?_) | (refine kN (cmp_D y.tgt x.tgt) (kP rfl) ?_) | (refine kO (cmp_D y.tgt x.tgt) (kP rfl) ?_) | (refine kN (hO) (kP rfl) ?_) | (refine kO (hO) (kP rfl) ?_) | refine kF ?_); simp (decide := true) only [go_sem, reduceIte, reduceCtorEq, jA, jB, jC, jD, jE, jF, hlt, hw, hx, hy, t2, t3, t5, h0, hwm, hord, Int.toNat_natCast, Ent.row, Lnk.enc]) | (apply kG; (simp (decide := true) only [go_sem, reduceIte, reduceCtorEq, jA, jB, jC, jD, jE, jF, hlt, hw, hx, hy, t2, t3, t5, h0, hwm, hord, Int.toNat_natCast, Ent.row, Lnk.enc]; rfl); all_goals (intro hcnd; first | (exact absurd hcnd (by decide)) | skip)) | ((first | refine kH ?_ ?_ | refine kI ?_ ?_) <;> (intro hcnd; simp (decide := true) only [go_sem, reduceIte, reduceCtorEq, jA, jB, jC, jD, jE, jF, hcnd, hlt, hw, hx, hy, t2, t3, t5, h0, hwm, hord, Int.toNat_natCast, Ent.row, Lnk.enc]))))
        rw [hi]
      · rw [t7] at hord
        have hb : badP (prevAt e.links k) x = false := by rw [hkm, prev_succ hy, badP, t7]; rfl
        rw [hb, if_neg (by decide)] at hi
        (repeat' (first | refine kA ?_ | refine kB ?_ | ((first | (refine kC (N := 66) rfl (by kernel_rfl) ?_) | (apply kJ (id := 12) (N := 66) kpm11; kernel_rfl; rfl; kernel_rfl; (repeat (first | exact Picks.nil | (apply Picks.cons; rfl)))) | refine kD ?_ | refine kE ?_ | (refine kN (hI) (kP rfl) ?_) | (refine kO (hI) (kP rfl) ?_) | (refine kN (cmp_D y.kind x.kind) (kP rfl) ?_) | (refine kO (cmp_D y.kind x.kind) (kP rfl) ?_) | (refine kN (cmp_D y.tgt x.tgt) (kP rfl) ?_) | (refine kO (cmp_D y.tgt x.tgt) (kP rfl) ?_) | (refine kN (hO) (kP rfl) ?_) | (refine kO (hO) (kP rfl) ?_) | refine kF ?_); simp (decide := true) only [go_sem, reduceIte, reduceCtorEq, jA, jB, jC, jD, jE, jF, hlt, hw, hx, hy, t2, t3, t5, h0, hwm, hord, Int.toNat_natCast, Ent.row, Lnk.enc]) | (apply kG; (simp (decide := true) only [go_sem, reduceIte, reduceCtorEq, jA, jB, jC, jD, jE, jF, hlt, hw, hx, hy, t2, t3, t5, h0, hwm, hord, Int.toNat_natCast, Ent.row, Lnk.enc]; rfl); all_goals (intro hcnd; first | (exact absurd hcnd (by decide)) | skip)) | ((first | refine kH ?_ ?_ | refine kI ?_ ?_) <;> (intro hcnd; simp (decide := true) only [go_sem, reduceIte, reduceCtorEq, jA, jB, jC, jD, jE, jF, hcnd, hlt, hw, hx, hy, t2, t3, t5, h0, hwm, hord, Int.toNat_natCast, Ent.row, Lnk.enc]))))
        exact ⟨by rw [prev_succ hx]; exact hi, kM rfl (by simp (decide := true) only [go_sem, reduceIte, reduceCtorEq, jA, jB, jC, jD, jE, jF]) (by simp (decide := true) only [go_sem, reduceIte, reduceCtorEq, jA, jB, jC, jD, jE, jF, Ent.row])⟩
  · intro hlt hi
    (repeat' (first | refine kA ?_ | refine kB ?_ | ((first | (refine kC (N := 66) rfl (by kernel_rfl) ?_) | (apply kJ (id := 12) (N := 66) kpm11; kernel_rfl; rfl; kernel_rfl; (repeat (first | exact Picks.nil | (apply Picks.cons; rfl)))) | refine kD ?_ | refine kE ?_ | refine kF ?_); simp (decide := true) only [go_sem, reduceIte, reduceCtorEq, jA, jB, jC, jD, jE, jF, hlt, Ent.row]) | (apply kG; (simp (decide := true) only [go_sem, reduceIte, reduceCtorEq, jA, jB, jC, jD, jE, jF, hlt, Ent.row]; rfl); all_goals (intro hcnd; first | (exact absurd hcnd (by decide)) | skip)) | ((first | refine kH ?_ ?_ | refine kI ?_ ?_) <;> (intro hcnd; simp (decide := true) only [go_sem, reduceIte, reduceCtorEq, jA, jB, jC, jD, jE, jF, hcnd, hlt, Ent.row]))))
    rw [← hi]; simp [linkL]
end Go.Proofs.YtiaamlaibfpdgaaDoor

namespace Go.Proofs.YtiaamlaibfpdgaaDoor
abbrev kpm12 : List (Nat × Go.Dl.Mode) := [(0, .light), (1, .light), (2, .light), (3, .light), (4, .light), (5, .light), (6, .light), (7, .light), (8, .light), (9, .light), (10, .light), (11, .light), (12, .light), (13, .light), (14, .light), (15, .light), (16, .light), (17, .light), (18, .light), (19, .light), (20, .light), (21, .light), (22, .light), (23, .light), (24, .light), (25, .light), (26, .light), (27, .light), (28, .light), (29, .light), (30, .light), (31, .light), (32, .light), (33, .light), (34, .light), (35, .light), (36, .light), (37, .light)]
abbrev kpm13 : List (Nat × Go.Dl.Mode) := [(0, .light), (1, .light), (2, .light), (3, .light), (4, .light), (5, .light), (6, .light), (7, .light), (8, .light), (9, .light), (10, .step), (11, .light), (12, .light)]
abbrev kpm14 : List (Nat × Go.Dl.Mode) := [(0, .light), (1, .light), (2, .light), (3, .light), (4, .light), (5, .light), (6, .light), (7, .light), (8, .light), (9, .light), (10, .light), (11, .light), (12, .step), (13, .light), (14, .light)]
end Go.Proofs.YtiaamlaibfpdgaaDoor
/- Entries: links, the reference's; references tgt places. -/
namespace Go.Proofs.YtiaamlaibfpdgaaDoor
open Go.Dl
open Go.Dl renaming dw_seq → kA, dw_block → kB, dw_reg → kC, dw_skip → kD, dw_exit → kE, dw_ret → kF, dw_cond → kG, guardC_f → kH, guardC_t → kI, dw_drw → kJ, dw_weaken → kK, sub_kn → kL, sub_ml → kM
open Go.Dl.CallC renaming mk → kN, light → kO
open Go.Dl.LeL renaming of_eq → kP
attribute [local irreducible] DW DCalls ECalls wk IW

set_option maxRecDepth 10000 in

set_option maxHeartbeats 8000000 in
theorem rLinks_D (e : Ent) : DCalls Tryd.prog 46 [.agg e.row] (dv (li (linksE e))) := by
  have hmax : maxLen = 9223372036854775807 := rfl
  refine dcalls (N := 76) (rs := [.tmp 2]) (by kernel_rfl) Tryd.func46 rfl rfl rfl (by simp) ?_
  rcases Bool.eq_false_or_eq_true (decide ((12 : Int) < (e.links.length : Int))) with t1 | t1
  · (repeat' (first | refine kA ?_ | refine kB ?_ | ((first | (refine kC (N := 76) rfl (by kernel_rfl) ?_) | (apply kJ (id := 13) (N := 76) kpm12; kernel_rfl; rfl; kernel_rfl; (repeat (first | exact Picks.nil | (apply Picks.cons; rfl)))) | refine kD ?_ | refine kE ?_ | refine kF ?_); simp (decide := true) only [go_sem, reduceIte, reduceCtorEq, jA, jB, jC, jD, jE, jF, t1, Ent.row]) | (apply kG; (simp (decide := true) only [go_sem, reduceIte, reduceCtorEq, jA, jB, jC, jD, jE, jF, t1, Ent.row]; rfl); all_goals (intro hcnd; first | (exact absurd hcnd (by decide)) | skip)) | ((first | refine kH ?_ ?_ | refine kI ?_ ?_) <;> (intro hcnd; simp (decide := true) only [go_sem, reduceIte, reduceCtorEq, jA, jB, jC, jD, jE, jF, hcnd, t1, Ent.row]))))
    rw [linksE, if_pos (by have := of_decide_eq_true t1; omega)]
  have n1 : ¬ 12 < e.links.length := by have := of_decide_eq_false t1; omega
  (repeat' (first | refine kA ?_ | refine kB ?_ | ((first | (refine kC (N := 76) rfl (by kernel_rfl) ?_) | (apply kJ (id := 13) (N := 76) kpm12; kernel_rfl; rfl; kernel_rfl; (repeat (first | exact Picks.nil | (apply Picks.cons; rfl)))) | refine kD ?_ | refine kE ?_); simp (decide := true) only [go_sem, reduceIte, reduceCtorEq, jA, jB, jC, jD, jE, jF, t1, Ent.row]) | (apply kG; (simp (decide := true) only [go_sem, reduceIte, reduceCtorEq, jA, jB, jC, jD, jE, jF, t1, Ent.row]; rfl); all_goals (intro hcnd; first | (exact absurd hcnd (by decide)) | skip)) | ((first | refine kH ?_ ?_ | refine kI ?_ ?_) <;> (intro hcnd; simp (decide := true) only [go_sem, reduceIte, reduceCtorEq, jA, jB, jC, jD, jE, jF, hcnd, t1, Ent.row]))))
  refine dw_rngI e.links (fun k => kn 76 [(1, .one (.bx 1 8 0 0)), (3, dv (li k))] (ml [(1, [e.row])])) (fun k => linkL e.id (prevAt e.links k) (e.links.drop k) = linksE e) (by omega) (kM rfl (by simp (decide := true) only [go_sem, reduceIte, reduceCtorEq, jA, jB, jC, jD, jE, jF]) (by simp (decide := true) only [go_sem, reduceIte, reduceCtorEq, jA, jB, jC, jD, jE, jF, Ent.row])) (by rw [linksE, if_neg n1]; simp [prev_zero]) ?_ ?_
  · intro k x hx hk hm htk hlt hw hi
    rw [drop_at hx, linkL] at hi
    have hI := rIdent_D x.tgt
    rcases Bool.eq_false_or_eq_true (decide (x.kind < 0)) with t2 | t2
    · have n2 := of_decide_eq_true t2
      have hE : linkE e.id (prevAt e.links k) x = 14 := by rw [linkE, if_pos (.inl n2)]
      rw [hE, if_pos (by decide)] at hi
      (repeat' (first | refine kA ?_ | refine kB ?_ | ((first | (refine kC (N := 76) rfl (by kernel_rfl) ?_) | (apply kJ (id := 13) (N := 76) kpm12; kernel_rfl; rfl; kernel_rfl; (repeat (first | exact Picks.nil | (apply Picks.cons; rfl)))) | refine kD ?_ | refine kE ?_ | refine kF ?_); simp (decide := true) only [go_sem, reduceIte, reduceCtorEq, jA, jB, jC, jD, jE, jF, hlt, hw, hx, t2, Ent.row, Lnk.enc]) | (apply kG; (simp (decide := true) only [go_sem, reduceIte, reduceCtorEq, jA, jB, jC, jD, jE, jF, hlt, hw, hx, t2, Ent.row, Lnk.enc]; rfl); all_goals (intro hcnd; first | (exact absurd hcnd (by decide)) | skip)) | ((first | refine kH ?_ ?_ | refine kI ?_ ?_) <;> (intro hcnd; simp (decide := true) only [go_sem, reduceIte, reduceCtorEq, jA, jB, jC, jD, jE, jF, hcnd, hlt, hw, hx, t2, Ent.row, Lnk.enc]))))
      rw [hi]
    have n2 := of_decide_eq_false t2
    rcases Bool.eq_false_or_eq_true (decide ((5 : Int) < x.kind)) with t3 | t3
    · have n3 := of_decide_eq_true t3
      have hE : linkE e.id (prevAt e.links k) x = 14 := by rw [linkE, if_pos (.inr n3)]
      rw [hE, if_pos (by decide)] at hi
      (repeat' (first | refine kA ?_ | refine kB ?_ | ((first | (refine kC (N := 76) rfl (by kernel_rfl) ?_) | (apply kJ (id := 13) (N := 76) kpm12; kernel_rfl; rfl; kernel_rfl; (repeat (first | exact Picks.nil | (apply Picks.cons; rfl)))) | refine kD ?_ | refine kE ?_ | refine kF ?_); simp (decide := true) only [go_sem, reduceIte, reduceCtorEq, jA, jB, jC, jD, jE, jF, hlt, hw, hx, t2, t3, Ent.row, Lnk.enc]) | (apply kG; (simp (decide := true) only [go_sem, reduceIte, reduceCtorEq, jA, jB, jC, jD, jE, jF, hlt, hw, hx, t2, t3, Ent.row, Lnk.enc]; rfl); all_goals (intro hcnd; first | (exact absurd hcnd (by decide)) | skip)) | ((first | refine kH ?_ ?_ | refine kI ?_ ?_) <;> (intro hcnd; simp (decide := true) only [go_sem, reduceIte, reduceCtorEq, jA, jB, jC, jD, jE, jF, hcnd, hlt, hw, hx, t2, t3, Ent.row, Lnk.enc]))))
      rw [hi]
    have n3 := of_decide_eq_false t3
    have n23 : ¬ (x.kind < 0 ∨ 5 < x.kind) := by omega
    cases t4 : ident x.tgt
    · rw [t4] at hI
      have hE : linkE e.id (prevAt e.links k) x = 2 := by rw [linkE, if_neg n23, t4]; rfl
      rw [hE, if_pos (by decide)] at hi
      (repeat' (first | refine kA ?_ | refine kB ?_ | ((first | (refine kC (N := 76) rfl (by kernel_rfl) ?_) | (apply kJ (id := 13) (N := 76) kpm12; kernel_rfl; rfl; kernel_rfl; (repeat (first | exact Picks.nil | (apply Picks.cons; rfl)))) | refine kD ?_ | refine kE ?_ | (refine kN (hI) (kP rfl) ?_) | (refine kO (hI) (kP rfl) ?_) | refine kF ?_); simp (decide := true) only [go_sem, reduceIte, reduceCtorEq, jA, jB, jC, jD, jE, jF, hlt, hw, hx, t2, t3, Ent.row, Lnk.enc]) | (apply kG; (simp (decide := true) only [go_sem, reduceIte, reduceCtorEq, jA, jB, jC, jD, jE, jF, hlt, hw, hx, t2, t3, Ent.row, Lnk.enc]; rfl); all_goals (intro hcnd; first | (exact absurd hcnd (by decide)) | skip)) | ((first | refine kH ?_ ?_ | refine kI ?_ ?_) <;> (intro hcnd; simp (decide := true) only [go_sem, reduceIte, reduceCtorEq, jA, jB, jC, jD, jE, jF, hcnd, hlt, hw, hx, t2, t3, Ent.row, Lnk.enc]))))
      rw [hi]
    rw [t4] at hI
    have n4 : ¬ ident x.tgt = false := by rw [t4]; decide
    rcases Bool.eq_false_or_eq_true (x.tgt == e.id) with t5 | t5
    · have hE : linkE e.id (prevAt e.links k) x = 17 := by rw [linkE, if_neg n23, if_neg n4, if_pos (by simpa using t5)]
      rw [hE, if_pos (by decide)] at hi
      (repeat' (first | refine kA ?_ | refine kB ?_ | ((first | (refine kC (N := 76) rfl (by kernel_rfl) ?_) | (apply kJ (id := 13) (N := 76) kpm12; kernel_rfl; rfl; kernel_rfl; (repeat (first | exact Picks.nil | (apply Picks.cons; rfl)))) | refine kD ?_ | refine kE ?_ | (refine kN (hI) (kP rfl) ?_) | (refine kO (hI) (kP rfl) ?_) | refine kF ?_); simp (decide := true) only [go_sem, reduceIte, reduceCtorEq, jA, jB, jC, jD, jE, jF, hlt, hw, hx, t2, t3, t5, Ent.row, Lnk.enc]) | (apply kG; (simp (decide := true) only [go_sem, reduceIte, reduceCtorEq, jA, jB, jC, jD, jE, jF, hlt, hw, hx, t2, t3, t5, Ent.row, Lnk.enc]; rfl); all_goals (intro hcnd; first | (exact absurd hcnd (by decide)) | skip)) | ((first | refine kH ?_ ?_ | refine kI ?_ ?_) <;> (intro hcnd; simp (decide := true) only [go_sem, reduceIte, reduceCtorEq, jA, jB, jC, jD, jE, jF, hcnd, hlt, hw, hx, t2, t3, t5, Ent.row, Lnk.enc]))))
      rw [hi]
    have n5 : ¬ x.tgt = e.id := by simpa using t5
    have hE5 : linkE e.id (prevAt e.links k) x = if badP (prevAt e.links k) x = true then 10 else 0 := by rw [linkE, if_neg n23, if_neg n4, if_neg n5]
    rw [hE5] at hi
    clear hE5
    rcases Nat.eq_zero_or_pos k with hk0 | hk0
    · have h0 : decide ((0 : Int) < (k : Int)) = false := by simp [hk0]
      have hb : badP (prevAt e.links k) x = false := by rw [hk0]; rfl
      rw [hb, if_neg (by decide)] at hi
      (repeat' (first | refine kA ?_ | refine kB ?_ | ((first | (refine kC (N := 76) rfl (by kernel_rfl) ?_) | (apply kJ (id := 13) (N := 76) kpm12; kernel_rfl; rfl; kernel_rfl; (repeat (first | exact Picks.nil | (apply Picks.cons; rfl)))) | refine kD ?_ | refine kE ?_ | (refine kN (hI) (kP rfl) ?_) | (refine kO (hI) (kP rfl) ?_) | refine kF ?_); simp (decide := true) only [go_sem, reduceIte, reduceCtorEq, jA, jB, jC, jD, jE, jF, hlt, hw, hx, t2, t3, t5, h0, Ent.row, Lnk.enc]) | (apply kG; (simp (decide := true) only [go_sem, reduceIte, reduceCtorEq, jA, jB, jC, jD, jE, jF, hlt, hw, hx, t2, t3, t5, h0, Ent.row, Lnk.enc]; rfl); all_goals (intro hcnd; first | (exact absurd hcnd (by decide)) | skip)) | ((first | refine kH ?_ ?_ | refine kI ?_ ?_) <;> (intro hcnd; simp (decide := true) only [go_sem, reduceIte, reduceCtorEq, jA, jB, jC, jD, jE, jF, hcnd, hlt, hw, hx, t2, t3, t5, h0, Ent.row, Lnk.enc]))))
      exact ⟨by rw [prev_succ hx]; exact hi, kM rfl (by simp (decide := true) only [go_sem, reduceIte, reduceCtorEq, jA, jB, jC, jD, jE, jF]) (by simp (decide := true) only [go_sem, reduceIte, reduceCtorEq, jA, jB, jC, jD, jE, jF, Ent.row])⟩
    · obtain ⟨m, hkm⟩ : ∃ m, k = m + 1 := ⟨k - 1, by omega⟩
      obtain ⟨y, hy⟩ : ∃ y, e.links[m]? = some y := ⟨_, List.getElem?_eq_getElem (by omega)⟩
      have h0 : decide ((0 : Int) < (k : Int)) = true := by simp; omega
      have hwm : IntKind.i64.wrap ((k : Int) - 1) = (m : Int) := by rw [show (k : Int) - 1 = (m : Int) by omega]; exact wrap64n (by omega)
      have bad : lessL y x = false → linkL e.id (prevAt e.links k) (x :: e.links.drop (k + 1)) = 10 := fun t7 => by
        have hb : badP (prevAt e.links k) x = true := by rw [hkm, prev_succ hy, badP, t7]; rfl
        rw [linkL, linkE, if_neg n23, if_neg n4, if_neg n5, hb, if_pos rfl, if_pos (by decide)]
      have good : lessL y x = true → linkL e.id (some x) (e.links.drop (k + 1)) = linksE e := fun t7 => by
        have hb : badP (prevAt e.links k) x = false := by rw [hkm, prev_succ hy, badP, t7]; rfl
        rw [hb, if_neg (by decide)] at hi
        exact hi
      have all : linkL e.id (prevAt e.links k) (x :: e.links.drop (k + 1)) = linksE e := by
        rw [linkL, linkE, if_neg n23, if_neg n4, if_neg n5]; exact hi
      rcases Bool.eq_false_or_eq_true (decide (x.kind < y.kind)) with c1 | c1
      · have m1 := of_decide_eq_true c1
        rw [bad (by simp [lessL]; omega)] at all
        (repeat' (first | refine kA ?_ | refine kB ?_ | ((first | (refine kC (N := 76) rfl (by kernel_rfl) ?_) | (apply kJ (id := 13) (N := 76) kpm12; kernel_rfl; rfl; kernel_rfl; (repeat (first | exact Picks.nil | (apply Picks.cons; rfl)))) | refine kD ?_ | refine kE ?_ | (refine kN (hI) (kP rfl) ?_) | (refine kO (hI) (kP rfl) ?_) | refine kF ?_); simp (decide := true) only [go_sem, reduceIte, reduceCtorEq, jA, jB, jC, jD, jE, jF, hlt, hw, hx, hy, t2, t3, t5, h0, hwm, c1, Int.toNat_natCast, Ent.row, Lnk.enc]) | (apply kG; (simp (decide := true) only [go_sem, reduceIte, reduceCtorEq, jA, jB, jC, jD, jE, jF, hlt, hw, hx, hy, t2, t3, t5, h0, hwm, c1, Int.toNat_natCast, Ent.row, Lnk.enc]; rfl); all_goals (intro hcnd; first | (exact absurd hcnd (by decide)) | skip)) | ((first | refine kH ?_ ?_ | refine kI ?_ ?_) <;> (intro hcnd; simp (decide := true) only [go_sem, reduceIte, reduceCtorEq, jA, jB, jC, jD, jE, jF, hcnd, hlt, hw, hx, hy, t2, t3, t5, h0, hwm, c1, Int.toNat_natCast, Ent.row, Lnk.enc]))))
        rw [all]
      have m1 := of_decide_eq_false c1
      rcases Bool.eq_false_or_eq_true (x.kind == y.kind) with c2 | c2
      · have m2 : x.kind = y.kind := by simpa using c2
        rcases Bool.eq_false_or_eq_true (decide (x.tgt ≤ y.tgt)) with c3 | c3
        · have m3 := of_decide_eq_true c3
          rw [bad (by simp [lessL]; omega)] at all
          (repeat' (first | refine kA ?_ | refine kB ?_ | ((first | (refine kC (N := 76) rfl (by kernel_rfl) ?_) | (apply kJ (id := 13) (N := 76) kpm12; kernel_rfl; rfl; kernel_rfl; (repeat (first | exact Picks.nil | (apply Picks.cons; rfl)))) | refine kD ?_ | refine kE ?_ | (refine kN (hI) (kP rfl) ?_) | (refine kO (hI) (kP rfl) ?_) | refine kF ?_); simp (decide := true) only [go_sem, reduceIte, reduceCtorEq, jA, jB, jC, jD, jE, jF, hlt, hw, hx, hy, t2, t3, t5, h0, hwm, c1, c2, c3, Int.toNat_natCast, Ent.row, Lnk.enc]) | (apply kG; (simp (decide := true) only [go_sem, reduceIte, reduceCtorEq, jA, jB, jC, jD, jE, jF, hlt, hw, hx, hy, t2, t3, t5, h0, hwm, c1, c2, c3, Int.toNat_natCast, Ent.row, Lnk.enc]; rfl); all_goals (intro hcnd; first | (exact absurd hcnd (by decide)) | skip)) | ((first | refine kH ?_ ?_ | refine kI ?_ ?_) <;> (intro hcnd; simp (decide := true) only [go_sem, reduceIte, reduceCtorEq, jA, jB, jC, jD, jE, jF, hcnd, hlt, hw, hx, hy, t2, t3, t5, h0, hwm, c1, c2, c3, Int.toNat_natCast, Ent.row, Lnk.enc]))))
          rw [all]
        · have m3 := of_decide_eq_false c3
          have hg := good (by simp [lessL]; omega)
          (repeat' (first | refine kA ?_ | refine kB ?_ | ((first | (refine kC (N := 76) rfl (by kernel_rfl) ?_) | (apply kJ (id := 13) (N := 76) kpm12; kernel_rfl; rfl; kernel_rfl; (repeat (first | exact Picks.nil | (apply Picks.cons; rfl)))) | refine kD ?_ | refine kE ?_ | (refine kN (hI) (kP rfl) ?_) | (refine kO (hI) (kP rfl) ?_) | refine kF ?_); simp (decide := true) only [go_sem, reduceIte, reduceCtorEq, jA, jB, jC, jD, jE, jF, hlt, hw, hx, hy, t2, t3, t5, h0, hwm, c1, c2, c3, Int.toNat_natCast, Ent.row, Lnk.enc]) | (apply kG; (simp (decide := true) only [go_sem, reduceIte, reduceCtorEq, jA, jB, jC, jD, jE, jF, hlt, hw, hx, hy, t2, t3, t5, h0, hwm, c1, c2, c3, Int.toNat_natCast, Ent.row, Lnk.enc]; rfl); all_goals (intro hcnd; first | (exact absurd hcnd (by decide)) | skip)) | ((first | refine kH ?_ ?_ | refine kI ?_ ?_) <;> (intro hcnd; simp (decide := true) only [go_sem, reduceIte, reduceCtorEq, jA, jB, jC, jD, jE, jF, hcnd, hlt, hw, hx, hy, t2, t3, t5, h0, hwm, c1, c2, c3, Int.toNat_natCast, Ent.row, Lnk.enc]))))
          exact ⟨by rw [prev_succ hx]; exact hg, kM rfl (by simp (decide := true) only [go_sem, reduceIte, reduceCtorEq, jA, jB, jC, jD, jE, jF]) (by simp (decide := true) only [go_sem, reduceIte, reduceCtorEq, jA, jB, jC, jD, jE, jF, Ent.row])⟩
      · have m2 : x.kind ≠ y.kind := by simpa using c2
        have hg := good (by simp [lessL]; omega)
        (repeat' (first | refine kA ?_ | refine kB ?_ | ((first | (refine kC (N := 76) rfl (by kernel_rfl) ?_) | (apply kJ (id := 13) (N := 76) kpm12; kernel_rfl; rfl; kernel_rfl; (repeat (first | exact Picks.nil | (apply Picks.cons; rfl)))) | refine kD ?_ | refine kE ?_ | (refine kN (hI) (kP rfl) ?_) | (refine kO (hI) (kP rfl) ?_) | refine kF ?_); simp (decide := true) only [go_sem, reduceIte, reduceCtorEq, jA, jB, jC, jD, jE, jF, hlt, hw, hx, hy, t2, t3, t5, h0, hwm, c1, c2, Int.toNat_natCast, Ent.row, Lnk.enc]) | (apply kG; (simp (decide := true) only [go_sem, reduceIte, reduceCtorEq, jA, jB, jC, jD, jE, jF, hlt, hw, hx, hy, t2, t3, t5, h0, hwm, c1, c2, Int.toNat_natCast, Ent.row, Lnk.enc]; rfl); all_goals (intro hcnd; first | (exact absurd hcnd (by decide)) | skip)) | ((first | refine kH ?_ ?_ | refine kI ?_ ?_) <;> (intro hcnd; simp (decide := true) only [go_sem, reduceIte, reduceCtorEq, jA, jB, jC, jD, jE, jF, hcnd, hlt, hw, hx, hy, t2, t3, t5, h0, hwm, c1, c2, Int.toNat_natCast, Ent.row, Lnk.enc]))))
        exact ⟨by rw [prev_succ hx]; exact hg, kM rfl (by simp (decide := true) only [go_sem, reduceIte, reduceCtorEq, jA, jB, jC, jD, jE, jF]) (by simp (decide := true) only [go_sem, reduceIte, reduceCtorEq, jA, jB, jC, jD, jE, jF, Ent.row])⟩
  · intro hlt hi
    (repeat' (first | refine kA ?_ | refine kB ?_ | ((first | (refine kC (N := 76) rfl (by kernel_rfl) ?_) | (apply kJ (id := 13) (N := 76) kpm12; kernel_rfl; rfl; kernel_rfl; (repeat (first | exact Picks.nil | (apply Picks.cons; rfl)))) | refine kD ?_ | refine kE ?_ | refine kF ?_); simp (decide := true) only [go_sem, reduceIte, reduceCtorEq, jA, jB, jC, jD, jE, jF, hlt, Ent.row]) | (apply kG; (simp (decide := true) only [go_sem, reduceIte, reduceCtorEq, jA, jB, jC, jD, jE, jF, hlt, Ent.row]; rfl); all_goals (intro hcnd; first | (exact absurd hcnd (by decide)) | skip)) | ((first | refine kH ?_ ?_ | refine kI ?_ ?_) <;> (intro hcnd; simp (decide := true) only [go_sem, reduceIte, reduceCtorEq, jA, jB, jC, jD, jE, jF, hcnd, hlt, Ent.row]))))
    rw [← hi]; simp [linkL]

def refE (p : Option Lnk) (x : Lnk) : Int := if okRef x = false then 2 else if badP p x = true then 10 else 0
def refL (p : Option Lnk) : List Lnk → Int
  | [] => 0
  | x :: l => if refE p x ≠ 0 then refE p x else refL (some x) l
def refsE (rs : List Lnk) : Int := if 12 < rs.length then 11 else refL none rs

set_option maxRecDepth 10000 in

set_option maxHeartbeats 8000000 in
theorem refs_D (e : Ent) (rs : List Lnk) (hrs : e.refs = rs) : DCalls Tryd.prog 43 [.agg e.row] (dv (li (refsE rs))) := by
  have hmax : maxLen = 9223372036854775807 := rfl
  refine dcalls (N := 34) (rs := [.tmp 2]) (by kernel_rfl) Tryd.func43 rfl rfl rfl (by simp) ?_
  rcases Bool.eq_false_or_eq_true (decide ((12 : Int) < (rs.length : Int))) with t1 | t1
  · (repeat' (first | refine kA ?_ | refine kB ?_ | ((first | (refine kC (N := 34) rfl (by kernel_rfl) ?_) | (apply kJ (id := 8) (N := 34) kpm13; kernel_rfl; rfl; kernel_rfl; (repeat (first | exact Picks.nil | (apply Picks.cons; rfl)))) | refine kD ?_ | refine kE ?_ | refine kF ?_); simp (decide := true) only [go_sem, reduceIte, reduceCtorEq, jA, jB, jC, jD, jE, jF, t1, Ent.row, hrs]) | (apply kG; (simp (decide := true) only [go_sem, reduceIte, reduceCtorEq, jA, jB, jC, jD, jE, jF, t1, Ent.row, hrs]; rfl); all_goals (intro hcnd; first | (exact absurd hcnd (by decide)) | skip)) | ((first | refine kH ?_ ?_ | refine kI ?_ ?_) <;> (intro hcnd; simp (decide := true) only [go_sem, reduceIte, reduceCtorEq, jA, jB, jC, jD, jE, jF, hcnd, t1, Ent.row, hrs]))))
    rw [refsE, if_pos (by have := of_decide_eq_true t1; omega)]
  have n1 : ¬ 12 < rs.length := by have := of_decide_eq_false t1; omega
  (repeat' (first | refine kA ?_ | refine kB ?_ | ((first | (refine kC (N := 34) rfl (by kernel_rfl) ?_) | (apply kJ (id := 8) (N := 34) kpm13; kernel_rfl; rfl; kernel_rfl; (repeat (first | exact Picks.nil | (apply Picks.cons; rfl)))) | refine kD ?_ | refine kE ?_); simp (decide := true) only [go_sem, reduceIte, reduceCtorEq, jA, jB, jC, jD, jE, jF, t1, Ent.row, hrs]) | (apply kG; (simp (decide := true) only [go_sem, reduceIte, reduceCtorEq, jA, jB, jC, jD, jE, jF, t1, Ent.row, hrs]; rfl); all_goals (intro hcnd; first | (exact absurd hcnd (by decide)) | skip)) | ((first | refine kH ?_ ?_ | refine kI ?_ ?_) <;> (intro hcnd; simp (decide := true) only [go_sem, reduceIte, reduceCtorEq, jA, jB, jC, jD, jE, jF, hcnd, t1, Ent.row, hrs]))))
  refine dw_rngI rs (fun k => kn 34 [(1, .one (.bx 1 8 0 0)), (10, dv (.sl 2 (rs.map Lnk.enc))), (11, dv (li rs.length)), (12, dv (li k))] (ml [(1, [e.row])])) (fun k => refL (prevAt rs k) (rs.drop k) = refsE rs) (by omega) (kM rfl (by simp (decide := true) only [go_sem, reduceIte, reduceCtorEq, jA, jB, jC, jD, jE, jF]) (by simp (decide := true) only [go_sem, reduceIte, reduceCtorEq, jA, jB, jC, jD, jE, jF, Ent.row, hrs])) (by rw [refsE, if_neg n1]; simp [prev_zero]) ?_ ?_
  · intro k x hx hk hm htk hlt hw hi
    rw [drop_at hx, refL] at hi
    have hI := named_D x
    simp only [Lnk.row] at hI
    cases t4 : okRef x
    · rw [t4] at hI
      have hE : refE (prevAt rs k) x = 2 := by rw [refE, t4]; rfl
      rw [hE, if_pos (by decide)] at hi
      (repeat' (first | refine kA ?_ | refine kB ?_ | ((first | (refine kC (N := 34) rfl (by kernel_rfl) ?_) | (apply kJ (id := 8) (N := 34) kpm13; kernel_rfl; rfl; kernel_rfl; (repeat (first | exact Picks.nil | (apply Picks.cons; rfl)))) | refine kD ?_ | refine kE ?_ | (refine kN (hI) (kP rfl) ?_) | (refine kO (hI) (kP rfl) ?_) | refine kF ?_); simp (decide := true) only [go_sem, reduceIte, reduceCtorEq, jA, jB, jC, jD, jE, jF, hlt, hw, hx, Ent.row, hrs, Lnk.enc, Lnk.row]) | (apply kG; (simp (decide := true) only [go_sem, reduceIte, reduceCtorEq, jA, jB, jC, jD, jE, jF, hlt, hw, hx, Ent.row, hrs, Lnk.enc, Lnk.row]; rfl); all_goals (intro hcnd; first | (exact absurd hcnd (by decide)) | skip)) | ((first | refine kH ?_ ?_ | refine kI ?_ ?_) <;> (intro hcnd; simp (decide := true) only [go_sem, reduceIte, reduceCtorEq, jA, jB, jC, jD, jE, jF, hcnd, hlt, hw, hx, Ent.row, hrs, Lnk.enc, Lnk.row]))))
      rw [hi]
    rw [t4] at hI
    have n4 : ¬ okRef x = false := by rw [t4]; decide
    have hE5 : refE (prevAt rs k) x = if badP (prevAt rs k) x = true then 10 else 0 := by rw [refE, if_neg n4]
    rw [hE5] at hi
    clear hE5
    rcases Nat.eq_zero_or_pos k with hk0 | hk0
    · have h0 : decide ((0 : Int) < (k : Int)) = false := by simp [hk0]
      have hb : badP (prevAt rs k) x = false := by rw [hk0]; rfl
      rw [hb, if_neg (by decide)] at hi
      (repeat' (first | refine kA ?_ | refine kB ?_ | ((first | (refine kC (N := 34) rfl (by kernel_rfl) ?_) | (apply kJ (id := 8) (N := 34) kpm13; kernel_rfl; rfl; kernel_rfl; (repeat (first | exact Picks.nil | (apply Picks.cons; rfl)))) | refine kD ?_ | refine kE ?_ | (refine kN (hI) (kP rfl) ?_) | (refine kO (hI) (kP rfl) ?_) | refine kF ?_); simp (decide := true) only [go_sem, reduceIte, reduceCtorEq, jA, jB, jC, jD, jE, jF, hlt, hw, hx, h0, Ent.row, hrs, Lnk.enc, Lnk.row]) | (apply kG; (simp (decide := true) only [go_sem, reduceIte, reduceCtorEq, jA, jB, jC, jD, jE, jF, hlt, hw, hx, h0, Ent.row, hrs, Lnk.enc, Lnk.row]; rfl); all_goals (intro hcnd; first | (exact absurd hcnd (by decide)) | skip)) | ((first | refine kH ?_ ?_ | refine kI ?_ ?_) <;> (intro hcnd; simp (decide := true) only [go_sem, reduceIte, reduceCtorEq, jA, jB, jC, jD, jE, jF, hcnd, hlt, hw, hx, h0, Ent.row, hrs, Lnk.enc, Lnk.row]))))
      exact ⟨by rw [prev_succ hx]; exact hi, kM rfl (by simp (decide := true) only [go_sem, reduceIte, reduceCtorEq, jA, jB, jC, jD, jE, jF]) (by simp (decide := true) only [go_sem, reduceIte, reduceCtorEq, jA, jB, jC, jD, jE, jF, Ent.row, hrs])⟩
    · obtain ⟨m, hkm⟩ : ∃ m, k = m + 1 := ⟨k - 1, by omega⟩
      obtain ⟨y, hy⟩ : ∃ y, rs[m]? = some y := ⟨_, List.getElem?_eq_getElem (by omega)⟩
      have h0 : decide ((0 : Int) < (k : Int)) = true := by simp; omega
      have hwm : IntKind.i64.wrap ((k : Int) - 1) = (m : Int) := by rw [show (k : Int) - 1 = (m : Int) by omega]; exact wrap64n (by omega)
      have hO := order_D y x
      simp only [Lnk.row] at hO
      have hord := ord_less y x
      cases t7 : lessL y x
      · rw [t7] at hord
        have hb : badP (prevAt rs k) x = true := by rw [hkm, prev_succ hy, badP, t7]; rfl
        rw [hb, if_pos (by decide), if_pos rfl] at hi
        (repeat' (first | refine kA ?_ | refine kB ?_ | ((first | (refine kC (N := 34) rfl (by kernel_rfl) ?_) | (apply kJ (id := 8) (N := 34) kpm13; kernel_rfl; rfl; kernel_rfl; (repeat (first | exact Picks.nil | (apply Picks.cons; rfl)))) | refine kD ?_ | refine kE ?_ | (refine kN (hI) (kP rfl) ?_) | (refine kO (hI) (kP rfl) ?_) | (refine kN (hO) (kP rfl) ?_) | (refine kO (hO) (kP rfl) ?_) | refine kF ?_); simp (decide := true) only [go_sem, reduceIte, reduceCtorEq, jA, jB, jC, jD, jE, jF, hlt, hw, hx, hy, h0, hwm, hord, Int.toNat_natCast, Ent.row, hrs, Lnk.enc, Lnk.row]) | (apply kG; (simp (decide := true) only [go_sem, reduceIte, reduceCtorEq, jA, jB, jC, jD, jE, jF, hlt, hw, hx, hy, h0, hwm, hord, Int.toNat_natCast, Ent.row, hrs, Lnk.enc, Lnk.row]; rfl); all_goals (intro hcnd; first | (exact absurd hcnd (by decide)) | skip)) | ((first | refine kH ?_ ?_ | refine kI ?_ ?_) <;> (intro hcnd; simp (decide := true) only [go_sem, reduceIte, reduceCtorEq, jA, jB, jC, jD, jE, jF, hcnd, hlt, hw, hx, hy, h0, hwm, hord, Int.toNat_natCast, Ent.row, hrs, Lnk.enc, Lnk.row]))))
        rw [hi]
      · rw [t7] at hord
        have hb : badP (prevAt rs k) x = false := by rw [hkm, prev_succ hy, badP, t7]; rfl
        rw [hb, if_neg (by decide)] at hi
        (repeat' (first | refine kA ?_ | refine kB ?_ | ((first | (refine kC (N := 34) rfl (by kernel_rfl) ?_) | (apply kJ (id := 8) (N := 34) kpm13; kernel_rfl; rfl; kernel_rfl; (repeat (first | exact Picks.nil | (apply Picks.cons; rfl)))) | refine kD ?_ | refine kE ?_ | (refine kN (hI) (kP rfl) ?_) | (refine kO (hI) (kP rfl) ?_) | (refine kN (hO) (kP rfl) ?_) | (refine kO (hO) (kP rfl) ?_) | refine kF ?_); simp (decide := true) only [go_sem, reduceIte, reduceCtorEq, jA, jB, jC, jD, jE, jF, hlt, hw, hx, hy, h0, hwm, hord, Int.toNat_natCast, Ent.row, hrs, Lnk.enc, Lnk.row]) | (apply kG; (simp (decide := true) only [go_sem, reduceIte, reduceCtorEq, jA, jB, jC, jD, jE, jF, hlt, hw, hx, hy, h0, hwm, hord, Int.toNat_natCast, Ent.row, hrs, Lnk.enc, Lnk.row]; rfl); all_goals (intro hcnd; first | (exact absurd hcnd (by decide)) | skip)) | ((first | refine kH ?_ ?_ | refine kI ?_ ?_) <;> (intro hcnd; simp (decide := true) only [go_sem, reduceIte, reduceCtorEq, jA, jB, jC, jD, jE, jF, hcnd, hlt, hw, hx, hy, h0, hwm, hord, Int.toNat_natCast, Ent.row, hrs, Lnk.enc, Lnk.row]))))
        exact ⟨by rw [prev_succ hx]; exact hi, kM rfl (by simp (decide := true) only [go_sem, reduceIte, reduceCtorEq, jA, jB, jC, jD, jE, jF]) (by simp (decide := true) only [go_sem, reduceIte, reduceCtorEq, jA, jB, jC, jD, jE, jF, Ent.row, hrs])⟩
  · intro hlt hi
    (repeat' (first | refine kA ?_ | refine kB ?_ | ((first | (refine kC (N := 34) rfl (by kernel_rfl) ?_) | (apply kJ (id := 8) (N := 34) kpm13; kernel_rfl; rfl; kernel_rfl; (repeat (first | exact Picks.nil | (apply Picks.cons; rfl)))) | refine kD ?_ | refine kE ?_ | refine kF ?_); simp (decide := true) only [go_sem, reduceIte, reduceCtorEq, jA, jB, jC, jD, jE, jF, hlt, Ent.row, hrs]) | (apply kG; (simp (decide := true) only [go_sem, reduceIte, reduceCtorEq, jA, jB, jC, jD, jE, jF, hlt, Ent.row, hrs]; rfl); all_goals (intro hcnd; first | (exact absurd hcnd (by decide)) | skip)) | ((first | refine kH ?_ ?_ | refine kI ?_ ?_) <;> (intro hcnd; simp (decide := true) only [go_sem, reduceIte, reduceCtorEq, jA, jB, jC, jD, jE, jF, hcnd, hlt, Ent.row, hrs]))))
    rw [← hi]; simp [refL]

set_option maxRecDepth 10000 in

set_option maxHeartbeats 8000000 in
theorem rRefs_D (rs : List Lnk) : DCalls Tryd.prog 47 [dv (.sl 2 (rs.map Lnk.enc)), dv (li 12)] (dv (li (refsE rs))) := by
  have hmax : maxLen = 9223372036854775807 := rfl
  refine dcalls (N := 37) (rs := [.tmp 4]) (by kernel_rfl) Tryd.func47 rfl rfl rfl (by simp) ?_
  rcases Bool.eq_false_or_eq_true (decide ((12 : Int) < (rs.length : Int))) with t1 | t1
  · (repeat' (first | refine kA ?_ | refine kB ?_ | ((first | (refine kC (N := 37) rfl (by kernel_rfl) ?_) | (apply kJ (id := 8) (N := 37) kpm14; kernel_rfl; rfl; kernel_rfl; (repeat (first | exact Picks.nil | (apply Picks.cons; rfl)))) | refine kD ?_ | refine kE ?_ | refine kF ?_); simp (decide := true) only [go_sem, reduceIte, reduceCtorEq, jA, jB, jC, jD, jE, jF, t1]) | (apply kG; (simp (decide := true) only [go_sem, reduceIte, reduceCtorEq, jA, jB, jC, jD, jE, jF, t1]; rfl); all_goals (intro hcnd; first | (exact absurd hcnd (by decide)) | skip)) | ((first | refine kH ?_ ?_ | refine kI ?_ ?_) <;> (intro hcnd; simp (decide := true) only [go_sem, reduceIte, reduceCtorEq, jA, jB, jC, jD, jE, jF, hcnd, t1]))))
    rw [refsE, if_pos (by have := of_decide_eq_true t1; omega)]
  have n1 : ¬ 12 < rs.length := by have := of_decide_eq_false t1; omega
  (repeat' (first | refine kA ?_ | refine kB ?_ | ((first | (refine kC (N := 37) rfl (by kernel_rfl) ?_) | (apply kJ (id := 8) (N := 37) kpm14; kernel_rfl; rfl; kernel_rfl; (repeat (first | exact Picks.nil | (apply Picks.cons; rfl)))) | refine kD ?_ | refine kE ?_); simp (decide := true) only [go_sem, reduceIte, reduceCtorEq, jA, jB, jC, jD, jE, jF, t1]) | (apply kG; (simp (decide := true) only [go_sem, reduceIte, reduceCtorEq, jA, jB, jC, jD, jE, jF, t1]; rfl); all_goals (intro hcnd; first | (exact absurd hcnd (by decide)) | skip)) | ((first | refine kH ?_ ?_ | refine kI ?_ ?_) <;> (intro hcnd; simp (decide := true) only [go_sem, reduceIte, reduceCtorEq, jA, jB, jC, jD, jE, jF, hcnd, t1]))))
  refine dw_rngI rs (fun k => kn 37 [(0, dv (.sl 2 (rs.map Lnk.enc))), (5, dv (li k))] noMem) (fun k => refL (prevAt rs k) (rs.drop k) = refsE rs) (by omega) (kL rfl (by simp (decide := true) only [go_sem, reduceIte, reduceCtorEq, jA, jB, jC, jD, jE, jF]) (by simp [noMem])) (by rw [refsE, if_neg n1]; simp [prev_zero]) ?_ ?_
  · intro k x hx hk hm htk hlt hw hi
    rw [drop_at hx, refL] at hi
    have hI := rRef_D x
    simp only [Lnk.row] at hI
    cases t4 : okRef x
    · rw [t4] at hI
      have hE : refE (prevAt rs k) x = 2 := by rw [refE, t4]; rfl
      rw [hE, if_pos (by decide)] at hi
      (repeat' (first | refine kA ?_ | refine kB ?_ | ((first | (refine kC (N := 37) rfl (by kernel_rfl) ?_) | (apply kJ (id := 8) (N := 37) kpm14; kernel_rfl; rfl; kernel_rfl; (repeat (first | exact Picks.nil | (apply Picks.cons; rfl)))) | refine kD ?_ | refine kE ?_ | (refine kN (hI) (kP rfl) ?_) | (refine kO (hI) (kP rfl) ?_) | refine kF ?_); simp (decide := true) only [go_sem, reduceIte, reduceCtorEq, jA, jB, jC, jD, jE, jF, hlt, hw, hx, Lnk.enc, Lnk.row]) | (apply kG; (simp (decide := true) only [go_sem, reduceIte, reduceCtorEq, jA, jB, jC, jD, jE, jF, hlt, hw, hx, Lnk.enc, Lnk.row]; rfl); all_goals (intro hcnd; first | (exact absurd hcnd (by decide)) | skip)) | ((first | refine kH ?_ ?_ | refine kI ?_ ?_) <;> (intro hcnd; simp (decide := true) only [go_sem, reduceIte, reduceCtorEq, jA, jB, jC, jD, jE, jF, hcnd, hlt, hw, hx, Lnk.enc, Lnk.row]))))
      rw [hi]
    rw [t4] at hI
    have n4 : ¬ okRef x = false := by rw [t4]; decide
    have hE5 : refE (prevAt rs k) x = if badP (prevAt rs k) x = true then 10 else 0 := by rw [refE, if_neg n4]
    rw [hE5] at hi
    clear hE5
    rcases Nat.eq_zero_or_pos k with hk0 | hk0
    · have h0 : decide ((0 : Int) < (k : Int)) = false := by simp [hk0]
      have hb : badP (prevAt rs k) x = false := by rw [hk0]; rfl
      rw [hb, if_neg (by decide)] at hi
      (repeat' (first | refine kA ?_ | refine kB ?_ | ((first | (refine kC (N := 37) rfl (by kernel_rfl) ?_) | (apply kJ (id := 8) (N := 37) kpm14; kernel_rfl; rfl; kernel_rfl; (repeat (first | exact Picks.nil | (apply Picks.cons; rfl)))) | refine kD ?_ | refine kE ?_ | (refine kN (hI) (kP rfl) ?_) | (refine kO (hI) (kP rfl) ?_) | refine kF ?_); simp (decide := true) only [go_sem, reduceIte, reduceCtorEq, jA, jB, jC, jD, jE, jF, hlt, hw, hx, h0, Lnk.enc, Lnk.row]) | (apply kG; (simp (decide := true) only [go_sem, reduceIte, reduceCtorEq, jA, jB, jC, jD, jE, jF, hlt, hw, hx, h0, Lnk.enc, Lnk.row]; rfl); all_goals (intro hcnd; first | (exact absurd hcnd (by decide)) | skip)) | ((first | refine kH ?_ ?_ | refine kI ?_ ?_) <;> (intro hcnd; simp (decide := true) only [go_sem, reduceIte, reduceCtorEq, jA, jB, jC, jD, jE, jF, hcnd, hlt, hw, hx, h0, Lnk.enc, Lnk.row]))))
      exact ⟨by rw [prev_succ hx]; exact hi, kL rfl (by simp (decide := true) only [go_sem, reduceIte, reduceCtorEq, jA, jB, jC, jD, jE, jF]) (by simp [noMem])⟩
    · obtain ⟨m, hkm⟩ : ∃ m, k = m + 1 := ⟨k - 1, by omega⟩
      obtain ⟨y, hy⟩ : ∃ y, rs[m]? = some y := ⟨_, List.getElem?_eq_getElem (by omega)⟩
      have h0 : decide ((0 : Int) < (k : Int)) = true := by simp; omega
      have hwm : IntKind.i64.wrap ((k : Int) - 1) = (m : Int) := by rw [show (k : Int) - 1 = (m : Int) by omega]; exact wrap64n (by omega)
      have hO := prec_D y x
      simp only [Lnk.row] at hO
      cases t7 : lessL y x
      · rw [t7] at hO
        have hb : badP (prevAt rs k) x = true := by rw [hkm, prev_succ hy, badP, t7]; rfl
        rw [hb, if_pos (by decide), if_pos rfl] at hi
        (repeat' (first | refine kA ?_ | refine kB ?_ | ((first | (refine kC (N := 37) rfl (by kernel_rfl) ?_) | (apply kJ (id := 8) (N := 37) kpm14; kernel_rfl; rfl; kernel_rfl; (repeat (first | exact Picks.nil | (apply Picks.cons; rfl)))) | refine kD ?_ | refine kE ?_ | (refine kN (hI) (kP rfl) ?_) | (refine kO (hI) (kP rfl) ?_) | (refine kN (hO) (kP rfl) ?_) | (refine kO (hO) (kP rfl) ?_) | refine kF ?_); simp (decide := true) only [go_sem, reduceIte, reduceCtorEq, jA, jB, jC, jD, jE, jF, hlt, hw, hx, hy, h0, hwm, Int.toNat_natCast, Lnk.enc, Lnk.row]) | (apply kG; (simp (decide := true) only [go_sem, reduceIte, reduceCtorEq, jA, jB, jC, jD, jE, jF, hlt, hw, hx, hy, h0, hwm, Int.toNat_natCast, Lnk.enc, Lnk.row]; rfl); all_goals (intro hcnd; first | (exact absurd hcnd (by decide)) | skip)) | ((first | refine kH ?_ ?_ | refine kI ?_ ?_) <;> (intro hcnd; simp (decide := true) only [go_sem, reduceIte, reduceCtorEq, jA, jB, jC, jD, jE, jF, hcnd, hlt, hw, hx, hy, h0, hwm, Int.toNat_natCast, Lnk.enc, Lnk.row]))))
        rw [hi]
      · rw [t7] at hO
        have hb : badP (prevAt rs k) x = false := by rw [hkm, prev_succ hy, badP, t7]; rfl
        rw [hb, if_neg (by decide)] at hi
        (repeat' (first | refine kA ?_ | refine kB ?_ | ((first | (refine kC (N := 37) rfl (by kernel_rfl) ?_) | (apply kJ (id := 8) (N := 37) kpm14; kernel_rfl; rfl; kernel_rfl; (repeat (first | exact Picks.nil | (apply Picks.cons; rfl)))) | refine kD ?_ | refine kE ?_ | (refine kN (hI) (kP rfl) ?_) | (refine kO (hI) (kP rfl) ?_) | (refine kN (hO) (kP rfl) ?_) | (refine kO (hO) (kP rfl) ?_) | refine kF ?_); simp (decide := true) only [go_sem, reduceIte, reduceCtorEq, jA, jB, jC, jD, jE, jF, hlt, hw, hx, hy, h0, hwm, Int.toNat_natCast, Lnk.enc, Lnk.row]) | (apply kG; (simp (decide := true) only [go_sem, reduceIte, reduceCtorEq, jA, jB, jC, jD, jE, jF, hlt, hw, hx, hy, h0, hwm, Int.toNat_natCast, Lnk.enc, Lnk.row]; rfl); all_goals (intro hcnd; first | (exact absurd hcnd (by decide)) | skip)) | ((first | refine kH ?_ ?_ | refine kI ?_ ?_) <;> (intro hcnd; simp (decide := true) only [go_sem, reduceIte, reduceCtorEq, jA, jB, jC, jD, jE, jF, hcnd, hlt, hw, hx, hy, h0, hwm, Int.toNat_natCast, Lnk.enc, Lnk.row]))))
        exact ⟨by rw [prev_succ hx]; exact hi, kL rfl (by simp (decide := true) only [go_sem, reduceIte, reduceCtorEq, jA, jB, jC, jD, jE, jF]) (by simp [noMem])⟩
  · intro hlt hi
    (repeat' (first | refine kA ?_ | refine kB ?_ | ((first | (refine kC (N := 37) rfl (by kernel_rfl) ?_) | (apply kJ (id := 8) (N := 37) kpm14; kernel_rfl; rfl; kernel_rfl; (repeat (first | exact Picks.nil | (apply Picks.cons; rfl)))) | refine kD ?_ | refine kE ?_ | refine kF ?_); simp (decide := true) only [go_sem, reduceIte, reduceCtorEq, jA, jB, jC, jD, jE, jF, hlt]) | (apply kG; (simp (decide := true) only [go_sem, reduceIte, reduceCtorEq, jA, jB, jC, jD, jE, jF, hlt]; rfl); all_goals (intro hcnd; first | (exact absurd hcnd (by decide)) | skip)) | ((first | refine kH ?_ ?_ | refine kI ?_ ?_) <;> (intro hcnd; simp (decide := true) only [go_sem, reduceIte, reduceCtorEq, jA, jB, jC, jD, jE, jF, hcnd, hlt]))))
    rw [← hi]; simp [refL]

end Go.Proofs.YtiaamlaibfpdgaaDoor

/- Entries: what is wrong with an entry; copies. -/
namespace Go.Proofs.YtiaamlaibfpdgaaDoor
open Go.Dl
open Go.Dl renaming dw_seq → kA, dw_block → kB, dw_reg → kC, dw_skip → kD, dw_exit → kE, dw_ret → kF, dw_cond → kG, guardC_f → kH, guardC_t → kI, dw_drw → kJ, dw_weaken → kK, sub_kn → kL, sub_ml → kM
open Go.Dl.CallC renaming mk → kN, light → kO
open Go.Dl.LeL renaming of_eq → kP
attribute [local irreducible] DW DCalls ECalls wk IW

structure MidE (e : Ent) : Prop where
  form : e.form.length ≤ 1048576
  alts : e.alts.length ≤ 1048576
  alt : ∀ a ∈ e.alts, a.length ≤ 1048576
  senses : e.senses.length ≤ 1048576
  links : e.links.length ≤ 1048576
  refs : e.refs.length ≤ 1048576
  strs : ∀ s ∈ e.senses, s.gloss.size ≤ 1048576 ∧ s.txt.size ≤ 1048576

def checkE (g : List Phon) (e : Ent) : Int :=
  if ident e.id = false then 2 else if formsE g e ≠ 0 then formsE g e else if sensesE e ≠ 0 then sensesE e else if linksE e ≠ 0 then linksE e else refsE e.refs

set_option maxRecDepth 10000 in

set_option maxHeartbeats 8000000 in
theorem check_D (g : List Phon) (e : Ent) : DCalls Tryd.prog 17 [.agg (invRow g), .agg e.row] (dv (li (checkE g e))) := by
  have hI := ident_D e.id
  have h1 := forms_D g e
  have h2 := senses_D e
  have h3 := links_D e
  have h4 := refs_D e e.refs rfl
  simp only [Ent.row, invRow] at h1 h2 h3 h4
  refine dcalls (N := 30) (rs := [.tmp 4]) (by kernel_rfl) Tryd.func17 rfl rfl rfl (by simp) ?_
  cases t0 : ident e.id
  · rw [t0] at hI
    (repeat' (first | refine kA ?_ | refine kB ?_ | ((first | (refine kC (N := 30) rfl (by kernel_rfl) ?_) | refine kD ?_ | refine kE ?_ | (refine kN (hI) (kP rfl) ?_) | (refine kO (hI) (kP rfl) ?_) | refine kF ?_); simp (decide := true) only [go_sem, reduceIte, reduceCtorEq, jA, jB, jC, jD, jE, jF, Ent.row, invRow]) | (apply kG; (simp (decide := true) only [go_sem, reduceIte, reduceCtorEq, jA, jB, jC, jD, jE, jF, Ent.row, invRow]; rfl); all_goals (intro hcnd; first | (exact absurd hcnd (by decide)) | skip))))
    rw [checkE, if_pos t0]
  rw [t0] at hI
  have n0 : ¬ ident e.id = false := by rw [t0]; decide
  rcases Bool.eq_false_or_eq_true (formsE g e != 0) with t1 | t1
  · have n1 : formsE g e ≠ 0 := by simpa using t1
    (repeat' (first | refine kA ?_ | refine kB ?_ | ((first | (refine kC (N := 30) rfl (by kernel_rfl) ?_) | refine kD ?_ | refine kE ?_ | (refine kN (hI) (kP rfl) ?_) | (refine kO (hI) (kP rfl) ?_) | (refine kN (h1) (kP rfl) ?_) | (refine kO (h1) (kP rfl) ?_) | refine kF ?_); simp (decide := true) only [go_sem, reduceIte, reduceCtorEq, jA, jB, jC, jD, jE, jF, t1, Ent.row, invRow]) | (apply kG; (simp (decide := true) only [go_sem, reduceIte, reduceCtorEq, jA, jB, jC, jD, jE, jF, t1, Ent.row, invRow]; rfl); all_goals (intro hcnd; first | (exact absurd hcnd (by decide)) | skip))))
    rw [checkE, if_neg n0, if_pos n1]
  have n1 : ¬ formsE g e ≠ 0 := by simpa using t1
  rcases Bool.eq_false_or_eq_true (sensesE e != 0) with t2 | t2
  · have n2 : sensesE e ≠ 0 := by simpa using t2
    (repeat' (first | refine kA ?_ | refine kB ?_ | ((first | (refine kC (N := 30) rfl (by kernel_rfl) ?_) | refine kD ?_ | refine kE ?_ | (refine kN (hI) (kP rfl) ?_) | (refine kO (hI) (kP rfl) ?_) | (refine kN (h1) (kP rfl) ?_) | (refine kO (h1) (kP rfl) ?_) | (refine kN (h2) (kP rfl) ?_) | (refine kO (h2) (kP rfl) ?_) | refine kF ?_); simp (decide := true) only [go_sem, reduceIte, reduceCtorEq, jA, jB, jC, jD, jE, jF, t1, t2, Ent.row, invRow]) | (apply kG; (simp (decide := true) only [go_sem, reduceIte, reduceCtorEq, jA, jB, jC, jD, jE, jF, t1, t2, Ent.row, invRow]; rfl); all_goals (intro hcnd; first | (exact absurd hcnd (by decide)) | skip))))
    rw [checkE, if_neg n0, if_neg n1, if_pos n2]
  have n2 : ¬ sensesE e ≠ 0 := by simpa using t2
  rcases Bool.eq_false_or_eq_true (linksE e != 0) with t3 | t3
  · have n3 : linksE e ≠ 0 := by simpa using t3
    (repeat' (first | refine kA ?_ | refine kB ?_ | ((first | (refine kC (N := 30) rfl (by kernel_rfl) ?_) | refine kD ?_ | refine kE ?_ | (refine kN (hI) (kP rfl) ?_) | (refine kO (hI) (kP rfl) ?_) | (refine kN (h1) (kP rfl) ?_) | (refine kO (h1) (kP rfl) ?_) | (refine kN (h2) (kP rfl) ?_) | (refine kO (h2) (kP rfl) ?_) | (refine kN (h3) (kP rfl) ?_) | (refine kO (h3) (kP rfl) ?_) | refine kF ?_); simp (decide := true) only [go_sem, reduceIte, reduceCtorEq, jA, jB, jC, jD, jE, jF, t1, t2, t3, Ent.row, invRow]) | (apply kG; (simp (decide := true) only [go_sem, reduceIte, reduceCtorEq, jA, jB, jC, jD, jE, jF, t1, t2, t3, Ent.row, invRow]; rfl); all_goals (intro hcnd; first | (exact absurd hcnd (by decide)) | skip))))
    rw [checkE, if_neg n0, if_neg n1, if_neg n2, if_pos n3]
  have n3 : ¬ linksE e ≠ 0 := by simpa using t3
  (repeat' (first | refine kA ?_ | refine kB ?_ | ((first | (refine kC (N := 30) rfl (by kernel_rfl) ?_) | refine kD ?_ | refine kE ?_ | (refine kN (hI) (kP rfl) ?_) | (refine kO (hI) (kP rfl) ?_) | (refine kN (h1) (kP rfl) ?_) | (refine kO (h1) (kP rfl) ?_) | (refine kN (h2) (kP rfl) ?_) | (refine kO (h2) (kP rfl) ?_) | (refine kN (h3) (kP rfl) ?_) | (refine kO (h3) (kP rfl) ?_) | (refine kN (h4) (kP rfl) ?_) | (refine kO (h4) (kP rfl) ?_) | refine kF ?_); simp (decide := true) only [go_sem, reduceIte, reduceCtorEq, jA, jB, jC, jD, jE, jF, t1, t2, t3, Ent.row, invRow]) | (apply kG; (simp (decide := true) only [go_sem, reduceIte, reduceCtorEq, jA, jB, jC, jD, jE, jF, t1, t2, t3, Ent.row, invRow]; rfl); all_goals (intro hcnd; first | (exact absurd hcnd (by decide)) | skip))))
  rw [checkE, if_neg n0, if_neg n1, if_neg n2, if_neg n3]

set_option maxRecDepth 10000 in

set_option maxHeartbeats 8000000 in
theorem rCheck_D (g : List Phon) (e : Ent) (he : MidE e) : DCalls Tryd.prog 19 [.agg (invRow g), .agg e.row] (dv (li (checkE g e))) := by
  have h1 := rWords_D g e
  have h2 := rSenses_D e he.strs
  have h3 := rLinks_D e
  have h4 := rRefs_D e.refs
  simp only [Ent.row, invRow] at h1 h2 h3 h4
  refine dcalls (N := 27) (rs := [.tmp 4]) (by kernel_rfl) Tryd.func19 rfl rfl rfl (by simp) ?_
  cases t0 : ident e.id
  · rw [t0, if_pos rfl] at h1
    (repeat' (first | refine kA ?_ | refine kB ?_ | ((first | (refine kC (N := 27) rfl (by kernel_rfl) ?_) | refine kD ?_ | refine kE ?_ | (refine kN (h1) (kP rfl) ?_) | (refine kO (h1) (kP rfl) ?_) | refine kF ?_); simp (decide := true) only [go_sem, reduceIte, reduceCtorEq, jA, jB, jC, jD, jE, jF, Ent.row, invRow]) | (apply kG; (simp (decide := true) only [go_sem, reduceIte, reduceCtorEq, jA, jB, jC, jD, jE, jF, Ent.row, invRow]; rfl); all_goals (intro hcnd; first | (exact absurd hcnd (by decide)) | skip))))
    rw [checkE, if_pos t0]
  have n0 : ¬ ident e.id = false := by rw [t0]; decide
  rw [if_neg n0] at h1
  rcases Bool.eq_false_or_eq_true (formsE g e != 0) with t1 | t1
  · have n1 : formsE g e ≠ 0 := by simpa using t1
    (repeat' (first | refine kA ?_ | refine kB ?_ | ((first | (refine kC (N := 27) rfl (by kernel_rfl) ?_) | refine kD ?_ | refine kE ?_ | (refine kN (h1) (kP rfl) ?_) | (refine kO (h1) (kP rfl) ?_) | refine kF ?_); simp (decide := true) only [go_sem, reduceIte, reduceCtorEq, jA, jB, jC, jD, jE, jF, t1, Ent.row, invRow]) | (apply kG; (simp (decide := true) only [go_sem, reduceIte, reduceCtorEq, jA, jB, jC, jD, jE, jF, t1, Ent.row, invRow]; rfl); all_goals (intro hcnd; first | (exact absurd hcnd (by decide)) | skip))))
    rw [checkE, if_neg n0, if_pos n1]
  have n1 : ¬ formsE g e ≠ 0 := by simpa using t1
  rcases Bool.eq_false_or_eq_true (sensesE e != 0) with t2 | t2
  · have n2 : sensesE e ≠ 0 := by simpa using t2
    (repeat' (first | refine kA ?_ | refine kB ?_ | ((first | (refine kC (N := 27) rfl (by kernel_rfl) ?_) | refine kD ?_ | refine kE ?_ | (refine kN (h1) (kP rfl) ?_) | (refine kO (h1) (kP rfl) ?_) | (refine kN (h2) (kP rfl) ?_) | (refine kO (h2) (kP rfl) ?_) | refine kF ?_); simp (decide := true) only [go_sem, reduceIte, reduceCtorEq, jA, jB, jC, jD, jE, jF, t1, t2, Ent.row, invRow]) | (apply kG; (simp (decide := true) only [go_sem, reduceIte, reduceCtorEq, jA, jB, jC, jD, jE, jF, t1, t2, Ent.row, invRow]; rfl); all_goals (intro hcnd; first | (exact absurd hcnd (by decide)) | skip))))
    rw [checkE, if_neg n0, if_neg n1, if_pos n2]
  have n2 : ¬ sensesE e ≠ 0 := by simpa using t2
  rcases Bool.eq_false_or_eq_true (linksE e != 0) with t3 | t3
  · have n3 : linksE e ≠ 0 := by simpa using t3
    (repeat' (first | refine kA ?_ | refine kB ?_ | ((first | (refine kC (N := 27) rfl (by kernel_rfl) ?_) | refine kD ?_ | refine kE ?_ | (refine kN (h1) (kP rfl) ?_) | (refine kO (h1) (kP rfl) ?_) | (refine kN (h2) (kP rfl) ?_) | (refine kO (h2) (kP rfl) ?_) | (refine kN (h3) (kP rfl) ?_) | (refine kO (h3) (kP rfl) ?_) | refine kF ?_); simp (decide := true) only [go_sem, reduceIte, reduceCtorEq, jA, jB, jC, jD, jE, jF, t1, t2, t3, Ent.row, invRow]) | (apply kG; (simp (decide := true) only [go_sem, reduceIte, reduceCtorEq, jA, jB, jC, jD, jE, jF, t1, t2, t3, Ent.row, invRow]; rfl); all_goals (intro hcnd; first | (exact absurd hcnd (by decide)) | skip))))
    rw [checkE, if_neg n0, if_neg n1, if_neg n2, if_pos n3]
  have n3 : ¬ linksE e ≠ 0 := by simpa using t3
  (repeat' (first | refine kA ?_ | refine kB ?_ | ((first | (refine kC (N := 27) rfl (by kernel_rfl) ?_) | refine kD ?_ | refine kE ?_ | (refine kN (h1) (kP rfl) ?_) | (refine kO (h1) (kP rfl) ?_) | (refine kN (h2) (kP rfl) ?_) | (refine kO (h2) (kP rfl) ?_) | (refine kN (h3) (kP rfl) ?_) | (refine kO (h3) (kP rfl) ?_) | (refine kN (h4) (kP rfl) ?_) | (refine kO (h4) (kP rfl) ?_) | refine kF ?_); simp (decide := true) only [go_sem, reduceIte, reduceCtorEq, jA, jB, jC, jD, jE, jF, t1, t2, t3, Ent.row, invRow]) | (apply kG; (simp (decide := true) only [go_sem, reduceIte, reduceCtorEq, jA, jB, jC, jD, jE, jF, t1, t2, t3, Ent.row, invRow]; rfl); all_goals (intro hcnd; first | (exact absurd hcnd (by decide)) | skip))))
  rw [checkE, if_neg n0, if_neg n1, if_neg n2, if_neg n3]
end Go.Proofs.YtiaamlaibfpdgaaDoor

/- Entries: copies. -/
namespace Go.Proofs.YtiaamlaibfpdgaaDoor
open Go.Dl
open Go.Dl renaming dw_seq → kA, dw_block → kB, dw_reg → kC, dw_skip → kD, dw_exit → kE, dw_ret → kF, dw_cond → kG, guardC_f → kH, guardC_t → kI, dw_drw → kJ, dw_weaken → kK, sub_kn → kL, sub_ml → kM
open Go.Dl.CallC renaming mk → kN, light → kO
open Go.Dl.LeL renaming of_eq → kP
attribute [local irreducible] DW DCalls ECalls wk IW

set_option maxRecDepth 10000 in

set_option maxHeartbeats 8000000 in
theorem copy_D (e : Ent) (he : MidE e) : DCalls Tryd.prog 18 [.agg e.row] (.agg e.row) := by
  have hmax : maxLen = 9223372036854775807 := rfl
  have r1 : (e.form.length * 8 ≤ 140737488355328) = True := eq_true (by have := he.form; omega)
  have q1 : (ints e.form).length = e.form.length := by simp
  refine dcalls (N := 46) (rs := [.cell 2 33]) (by kernel_rfl) Tryd.func18 rfl rfl rfl (by simp) ?_
  (repeat' (first | refine kA ?_ | refine kB ?_ | ((first | (refine kC (N := 46) rfl (by kernel_rfl) ?_) | refine kD ?_ | refine kE ?_); simp (decide := true) only [go_sem, reduceIte, reduceCtorEq, jA, jB, jC, jD, jE, jF, Ent.row, r1]) | (apply kG; (simp (decide := true) only [go_sem, reduceIte, reduceCtorEq, jA, jB, jC, jD, jE, jF, Ent.row, r1]; rfl); all_goals (intro hcnd; first | (exact absurd hcnd (by decide)) | skip))))
  refine dw_exc 1 (by simp (decide := true) only [go_sem, reduceIte, reduceCtorEq, jA, jB, jC, jD, jE, jF]; rfl) ?_
  refine dw_ownX 3 3 1 (by simp (decide := true) only [go_sem, reduceIte, reduceCtorEq, jA, jB, jC, jD, jE, jF]; rfl) ?_
  refine dw_rngI e.alts (fun k => kn 46 [(1, .one (.bx 1 8 0 0)), (2, .one (.bx 2 8 0 0)), (3, .one (.own 3 1 ((e.alts.take k).map altC))), (4, dv (li k))] (ml [(1, [e.row]), (2, [[.c (li 0), .ex 1 [], .c (li 0), .ex 1 [], .c (li 0), .ex 2 [], .ex 2 [], .ex 2 []]])])) (fun _ => True) (by have := he.alts; omega) (kM rfl (by simp (decide := true) only [go_sem, reduceIte, reduceCtorEq, jA, jB, jC, jD, jE, jF]) (by simp (decide := true) only [go_sem, reduceIte, reduceCtorEq, jA, jB, jC, jD, jE, jF, Ent.row])) trivial ?_ ?_
  · intro k a ha hk hm htk hlt hw _
    have r2 : (a.length * 8 ≤ 140737488355328) = True := eq_true (by have := he.alt a hm; omega)
    have r3 : (((e.alts.take k).length + 1) * 24 ≤ 140737488355328) = True := eq_true (by rw [List.length_take]; have := he.alts; omega)
    (repeat' (first | refine kA ?_ | refine kB ?_ | ((first | (refine kC (N := 46) rfl (by kernel_rfl) ?_) | refine kD ?_ | refine kE ?_ | refine kF ?_); simp (decide := true) only [go_sem, reduceIte, reduceCtorEq, jA, jB, jC, jD, jE, jF, hlt, hw, ha, r2, r3, Ent.row, altC]) | (apply kG; (simp (decide := true) only [go_sem, reduceIte, reduceCtorEq, jA, jB, jC, jD, jE, jF, hlt, hw, ha, r2, r3, Ent.row, altC]; rfl); all_goals (intro hcnd; first | (exact absurd hcnd (by decide)) | skip))))
    exact kM rfl (by simp (decide := true) only [go_sem, reduceIte, reduceCtorEq, jA, jB, jC, jD, jE, jF, htk, List.map_append]) (by simp (decide := true) only [go_sem, reduceIte, reduceCtorEq, jA, jB, jC, jD, jE, jF, Ent.row])
  · intro hlt _
    have r4 : (e.senses.length * 32 ≤ 140737488355328) = True := eq_true (by have := he.senses; omega)
    have r5 : (e.links.length * 16 ≤ 140737488355328) = True := eq_true (by have := he.links; omega)
    have r6 : (e.refs.length * 16 ≤ 140737488355328) = True := eq_true (by have := he.refs; omega)
    (repeat' (first | refine kA ?_ | refine kB ?_ | ((first | (refine kC (N := 46) rfl (by kernel_rfl) ?_) | refine kD ?_ | refine kE ?_); simp (decide := true) only [go_sem, reduceIte, reduceCtorEq, jA, jB, jC, jD, jE, jF, hlt, r4, r5, r6, Ent.row]) | (apply kG; (simp (decide := true) only [go_sem, reduceIte, reduceCtorEq, jA, jB, jC, jD, jE, jF, hlt, r4, r5, r6, Ent.row]; rfl); all_goals (intro hcnd; first | (exact absurd hcnd (by decide)) | skip))))
    refine dw_exc 2 (by simp (decide := true) only [go_sem, reduceIte, reduceCtorEq, jA, jB, jC, jD, jE, jF]; rfl) ?_
    refine kF ?_; simp (decide := true) only [go_sem, reduceIte, reduceCtorEq, jA, jB, jC, jD, jE, jF]
    simp [Ent.row]
end Go.Proofs.YtiaamlaibfpdgaaDoor

namespace Go.Proofs.YtiaamlaibfpdgaaDoor
abbrev kpm15 : List (Nat × Go.Dl.Mode) := [(0, .light), (1, .light), (2, .light), (3, .light), (4, .light), (5, .light), (6, .light), (7, .light), (8, .step)]
end Go.Proofs.YtiaamlaibfpdgaaDoor
/- Senses and references: lists of them in memory of one's own (printed by gen_ins.py). -/
namespace Go.Proofs.YtiaamlaibfpdgaaDoor
open Go.Dl
open Go.Dl renaming dw_seq → kA, dw_block → kB, dw_reg → kC, dw_skip → kD, dw_exit → kE, dw_ret → kF, dw_cond → kG, guardC_f → kH, guardC_t → kI, dw_drw → kJ, dw_weaken → kK, sub_kn → kL, sub_ml → kM
open Go.Dl.CallC renaming mk → kN, light → kO
open Go.Dl.LeL renaming of_eq → kP
attribute [local irreducible] DW DCalls ECalls wk IW


set_option maxRecDepth 10000 in
set_option maxHeartbeats 2000000 in
theorem cloneR_E (xs : List (List Dl.C)) (hz : ∀ r ∈ xs, r.length = 2) (hl : xs.length ≤ 2000000) :
    ECalls Tryd.prog 64 [dv (.sl 2 xs)] noMem (fun r H' => ∃ j, r = .one (.ba 0 2 0 xs.length (xs.length + j)) ∧ H' = ml [(0, cr xs ++ anyRows j 2)]) := by
  refine ecalls (N := 8) (rs := [.tmp 2]) (by kernel_rfl) Tryd.func64 rfl rfl rfl (by simp) ?_
  cases xs with
  | nil =>
    refine dw_emp (sz := 2) 0 (by simp (decide := true) only [go_sem, reduceIte, reduceCtorEq, jA, jB, jC, jD, jE, jF]) ?_ (fun a cap hcap => ?_)
    · (repeat (first | refine kA ?_ | refine kB ?_ | ((first | (refine kC (N := 8) rfl (by kernel_rfl) ?_) | refine kD ?_ | refine kE ?_); simp (decide := true) only [go_sem, reduceIte, reduceCtorEq, jA, jB, jC, jD, jE, jF])))
      apply kG; (simp (decide := true) only [go_sem, reduceIte, reduceCtorEq, jA, jB, jC, jD, jE, jF]; rfl)
      · intro _
        (repeat (first | refine kA ?_ | refine kB ?_ | ((first | (refine kC (N := 8) rfl (by kernel_rfl) ?_) | refine kD ?_ | refine kE ?_); simp (decide := true) only [go_sem, reduceIte, reduceCtorEq, jA, jB, jC, jD, jE, jF])))
        refine kK (DS.Sub.trans (sub_zero 2 0 2 (.inl (by simp (decide := true) only [go_sem, reduceIte, reduceCtorEq, jA, jB, jC, jD, jE, jF]))) (kM (N := 8) (sls := [(2, .one (.ba 0 2 0 0 0))]) (bxs := [(0, [])]) rfl (by simp (decide := true) only [go_sem, reduceIte, reduceCtorEq, jA, jB, jC, jD, jE, jF]) (by simp (decide := true) only [go_sem, reduceIte, reduceCtorEq, jA, jB, jC, jD, jE, jF]))) ?_
        refine kF ?_; simp (decide := true) only [go_sem, reduceIte, reduceCtorEq, jA, jB, jC, jD, jE, jF]
        exact ⟨0, rfl, rfl⟩
      · simp
    · (repeat (first | refine kA ?_ | refine kB ?_ | ((first | (refine kC (N := 8) rfl (by kernel_rfl) ?_) | refine kD ?_ | refine kE ?_); simp (decide := true) only [go_sem, reduceIte, reduceCtorEq, jA, jB, jC, jD, jE, jF])))
      apply kG; (simp (decide := true) only [go_sem, reduceIte, reduceCtorEq, jA, jB, jC, jD, jE, jF]; rfl)
      · simp
      intro _
      refine kD ?_
      simp (decide := true) only [go_sem, reduceIte, reduceCtorEq, jA, jB, jC, jD, jE, jF]
      refine kK (s' := kn 8 [(0, dv (.sl 2 []))] noMem) (kL rfl ⟨.inr (by simp (decide := true) only [go_sem, reduceIte, reduceCtorEq, jA, jB, jC, jD, jE, jF]; exact DLe.emp 2 hcap), trivial⟩ (by simp [noMem])) ?_
      refine kA ?_
      refine dw_regM (N := 8) [.hand] rfl (by kernel_rfl) ?_
      simp (decide := true) only [go_sem, reduceIte, reduceCtorEq, jA, jB, jC, jD, jE, jF]
      refine StepC.mk (Step.buildNone (sz := 2) rfl rfl (by simp (decide := true) only [go_sem, reduceIte, reduceCtorEq, jA, jB, jC, jD, jE, jF]) ?_)
      simp (decide := true) only [go_sem, reduceIte, reduceCtorEq, jA, jB, jC, jD, jE, jF]
      refine StepC.mk (Step.appendList (n := 5) (sz := 2) (by_ := 16) (rows := []) (j := 0) (ys := []) rfl rfl (by simp (decide := true) only [go_sem, reduceIte, reduceCtorEq, jA, jB, jC, jD, jE, jF]) (by simp (decide := true) only [go_sem, reduceIte, reduceCtorEq, jA, jB, jC, jD, jE, jF]) (by simp (decide := true) only [go_sem, reduceIte, reduceCtorEq, jA, jB, jC, jD, jE, jF]) (by simp [RowsSz]) (srcSl (ys := []) (by simp (decide := true) only [go_sem, reduceIte, reduceCtorEq, jA, jB, jC, jD, jE, jF])) (by simp) ?_)
      intro j'
      simp (decide := true) only [go_sem, reduceIte, reduceCtorEq, jA, jB, jC, jD, jE, jF]
      (repeat' (first | refine kA ?_ | refine kB ?_ | ((first | (refine kC (N := 8) rfl (by kernel_rfl) ?_) | refine kD ?_ | refine kE ?_); simp (decide := true) only [go_sem, reduceIte, reduceCtorEq, jA, jB, jC, jD, jE, jF]) | (apply kG; (simp (decide := true) only [go_sem, reduceIte, reduceCtorEq, jA, jB, jC, jD, jE, jF]; rfl); all_goals (intro hcnd; first | (exact absurd hcnd (by decide)) | skip))))
      refine kK (DS.Sub.trans (sub_mv 7 0 (by omega)) (kM (N := 8) (sls := [(2, .one (.ba 0 2 0 0 (0 + j')))]) (bxs := [(0, cr [] ++ anyRows j' 2)]) rfl (by simp (decide := true) only [go_sem, reduceIte, reduceCtorEq, jA, jB, jC, jD, jE, jF]) (by simp (decide := true) only [go_sem, reduceIte, reduceCtorEq, jA, jB, jC, jD, jE, jF, cr_nil]))) ?_
      refine kF ?_; simp (decide := true) only [go_sem, reduceIte, reduceCtorEq, jA, jB, jC, jD, jE, jF]
      exact ⟨j', rfl, rfl⟩
  | cons x xs =>
    (repeat (first | refine kA ?_ | refine kB ?_ | ((first | (refine kC (N := 8) rfl (by kernel_rfl) ?_) | refine kD ?_ | refine kE ?_); simp (decide := true) only [go_sem, reduceIte, reduceCtorEq, jA, jB, jC, jD, jE, jF])))
    apply kG; (simp (decide := true) only [go_sem, reduceIte, reduceCtorEq, jA, jB, jC, jD, jE, jF]; rfl)
    · simp
    intro _
    refine kD ?_
    simp (decide := true) only [go_sem, reduceIte, reduceCtorEq, jA, jB, jC, jD, jE, jF]
    refine kA ?_
    refine dw_regM (N := 8) [.hand] rfl (by kernel_rfl) ?_
    simp (decide := true) only [go_sem, reduceIte, reduceCtorEq, jA, jB, jC, jD, jE, jF]
    refine StepC.mk (Step.buildNone (sz := 2) rfl rfl (by simp (decide := true) only [go_sem, reduceIte, reduceCtorEq, jA, jB, jC, jD, jE, jF]) ?_)
    simp (decide := true) only [go_sem, reduceIte, reduceCtorEq, jA, jB, jC, jD, jE, jF]
    refine StepC.mk (Step.appendList (n := 5) (sz := 2) (by_ := 16) (rows := []) (j := 0) (ys := cr (x :: xs)) rfl rfl (by simp (decide := true) only [go_sem, reduceIte, reduceCtorEq, jA, jB, jC, jD, jE, jF]) (by simp (decide := true) only [go_sem, reduceIte, reduceCtorEq, jA, jB, jC, jD, jE, jF]) (by simp (decide := true) only [go_sem, reduceIte, reduceCtorEq, jA, jB, jC, jD, jE, jF]) (by simp [RowsSz]) (srcSl (by simp (decide := true) only [go_sem, reduceIte, reduceCtorEq, jA, jB, jC, jD, jE, jF])) (by simp only [cr_len, List.length_nil]; omega) ?_)
    intro j'
    simp (decide := true) only [go_sem, reduceIte, reduceCtorEq, jA, jB, jC, jD, jE, jF]
    (repeat' (first | refine kA ?_ | refine kB ?_ | ((first | (refine kC (N := 8) rfl (by kernel_rfl) ?_) | refine kD ?_ | refine kE ?_); simp (decide := true) only [go_sem, reduceIte, reduceCtorEq, jA, jB, jC, jD, jE, jF]) | (apply kG; (simp (decide := true) only [go_sem, reduceIte, reduceCtorEq, jA, jB, jC, jD, jE, jF]; rfl); all_goals (intro hcnd; first | (exact absurd hcnd (by decide)) | skip))))
    refine kK (DS.Sub.trans (sub_mv 7 0 (by omega)) (kM (N := 8) (sls := [(2, .one (.ba 0 2 0 (x :: xs).length ((x :: xs).length + j')))]) (bxs := [(0, cr (x :: xs) ++ anyRows j' 2)]) rfl (by simp (decide := true) only [go_sem, reduceIte, reduceCtorEq, jA, jB, jC, jD, jE, jF, cr_len]) (by simp (decide := true) only [go_sem, reduceIte, reduceCtorEq, jA, jB, jC, jD, jE, jF]))) ?_
    refine kF ?_; simp (decide := true) only [go_sem, reduceIte, reduceCtorEq, jA, jB, jC, jD, jE, jF]
    exact ⟨j', rfl, rfl⟩

set_option maxRecDepth 10000 in
set_option maxHeartbeats 8000000 in
theorem insR_E (a : Nat) (xs : List (List Dl.C)) (j : Nat) (v : List Dl.C) (hz : ∀ r ∈ xs, r.length = 2) (hvl : v.length = 2) (i : Nat) (hi : i ≤ xs.length) (hl : xs.length ≤ 1100000) :
    ECalls Tryd.prog 85 [.one (.ba 1000 2 0 xs.length (xs.length + j)), dv (li i), .one (.ba (a + NB) 2 0 1 1)] (listMem xs j 2 (a + NB) v)
      (fun r H' => ∃ j', r = .one (.ba 1000 2 0 (xs.length + 1) (xs.length + 1 + j')) ∧ H' = ml [(1000, cr (xs.take i ++ v :: xs.drop i) ++ anyRows j' 2)]) := by
  have hNB := NB_big
  have hmax : (2000000 : Nat) < maxLen := by simp [maxLen]
  have hqn : a + NB ≠ 1000 := by omega
  have le1 : (0 : Nat) ≤ i := Nat.zero_le _
  have hlj : xs.length ≤ xs.length + j := by omega
  have hib : i ≤ xs.length + j := by omega
  have hcl := cr_len xs
  have hzr := cr_sz hz
  have hz2 : RowsSz 2 (cr xs ++ anyRows j 2) := fun r hr => (List.mem_append.1 hr).elim (hzr r) (anyRows_sz j 2 r)
  have hml := listMem_l xs j 2 (a + NB) v
  have hmq := listMem_q xs j 2 a v
  have hvT : (v.map T.c).length = 2 := by simpa using hvl
  refine ecalls (N := 95) (rs := [.tmp 6]) (by kernel_rfl) Tryd.func85 rfl rfl rfl (by simp) ?_
  rcases Nat.lt_or_ge i xs.length with hlt | hge
  · have he : ((i : Int) == (xs.length : Int)) = false := by simp; omega
    have hlt' : i < (cr xs).length := by omega
    have hw1 : IntKind.i64.wrap ((xs.length : Int) + 1) = ((xs.length + 1 : Nat) : Int) := by rw [wrap_i64 (by omega) (by omega)]; rfl
    have hw2 : IntKind.i64.wrap (((xs.length + 1 : Nat) : Int) - (i : Int)) = ((xs.length + 1 - i : Nat) : Int) := by rw [wrap_i64 (by omega) (by omega)]; omega
    have hw3 : IntKind.i64.wrap ((i : Int) + 1) = ((i + 1 : Nat) : Int) := by rw [wrap_i64 (by omega) (by omega)]; rfl
    (repeat (first | refine kA ?_ | refine kB ?_ | ((first | (refine kC (N := 95) rfl (by kernel_rfl) ?_) | (apply kJ (id := 11) (N := 95) kpm15; kernel_rfl; rfl; kernel_rfl; (repeat (first | exact Picks.nil | (apply Picks.cons; rfl)))) | (apply kJ (id := 15) (N := 95) kpm15; kernel_rfl; rfl; kernel_rfl; (repeat (first | exact Picks.nil | (apply Picks.cons; rfl)))) | refine kD ?_ | refine kE ?_); simp (decide := true) only [go_sem, reduceIte, reduceCtorEq, jA, jB, jC, jD, jE, jF, hi, hib, hlj, he])))
    apply kG; (simp (decide := true) only [go_sem, reduceIte, reduceCtorEq, jA, jB, jC, jD, jE, jF]; rfl)
    · simp
    intro _
    (repeat (first | refine kA ?_ | refine kB ?_ | ((first | (refine kC (N := 95) rfl (by kernel_rfl) ?_) | (apply kJ (id := 11) (N := 95) kpm15; kernel_rfl; rfl; kernel_rfl; (repeat (first | exact Picks.nil | (apply Picks.cons; rfl)))) | (apply kJ (id := 15) (N := 95) kpm15; kernel_rfl; rfl; kernel_rfl; (repeat (first | exact Picks.nil | (apply Picks.cons; rfl)))) | refine kD ?_ | refine kE ?_); simp (decide := true) only [go_sem, reduceIte, reduceCtorEq, jA, jB, jC, jD, jE, jF, hi, hib, hlj, he])))
    apply kG; (simp (decide := true) only [go_sem, reduceIte, reduceCtorEq, jA, jB, jC, jD, jE, jF]; rfl)
    · simp
    intro _
    rcases Nat.eq_zero_or_pos j with hj0 | hj0
    · have hg : decide (((xs.length + j : Nat) : Int) < ((xs.length + 1 : Nat) : Int)) = true := by simp; omega
      (repeat (first | refine kA ?_ | refine kB ?_ | ((first | (refine kC (N := 95) rfl (by kernel_rfl) ?_) | (apply kJ (id := 11) (N := 95) kpm15; kernel_rfl; rfl; kernel_rfl; (repeat (first | exact Picks.nil | (apply Picks.cons; rfl)))) | (apply kJ (id := 15) (N := 95) kpm15; kernel_rfl; rfl; kernel_rfl; (repeat (first | exact Picks.nil | (apply Picks.cons; rfl)))) | refine kD ?_ | refine kE ?_); simp (decide := true) only [go_sem, reduceIte, reduceCtorEq, jA, jB, jC, jD, jE, jF, hi, hib, hlj, he, hw1, hg])))
      apply kG; (simp (decide := true) only [go_sem, reduceIte, reduceCtorEq, jA, jB, jC, jD, jE, jF]; rfl)
      · intro _
        have hik : i + (xs.length + 1 - i) = xs.length + 1 := by omega
        have h0i := Nat.zero_le i
        (repeat (first | refine kA ?_ | refine kB ?_ | ((first | (refine kC (N := 95) rfl (by kernel_rfl) ?_) | (apply kJ (id := 11) (N := 95) kpm15; kernel_rfl; rfl; kernel_rfl; (repeat (first | exact Picks.nil | (apply Picks.cons; rfl)))) | (apply kJ (id := 15) (N := 95) kpm15; kernel_rfl; rfl; kernel_rfl; (repeat (first | exact Picks.nil | (apply Picks.cons; rfl)))) | refine kD ?_ | refine kE ?_); simp (decide := true) only [go_sem, reduceIte, reduceCtorEq, jA, jB, jC, jD, jE, jF, hi, hib, hlj, he, hw1, hw2, h0i, Nat.sub_zero])))
        refine StepC.mk (Step.appendMkList (kd := .i64) (n := 1000) (rows := cr xs ++ anyRows j 2) (i := 0) (len := i) (cap := xs.length + j) (k := xs.length + 1 - i) (sz := 2) (by_ := 16) rfl rfl (by simp (decide := true) only [go_sem, reduceIte, reduceCtorEq, jA, jB, jC, jD, jE, jF]) (by simp (decide := true) only [go_sem, reduceIte, reduceCtorEq, jA, jB, jC, jD, jE, jF]) (by simp (decide := true) only [go_sem, reduceIte, reduceCtorEq, jA, jB, jC, jD, jE, jF]) (by simp (decide := true) only [go_sem, reduceIte, reduceCtorEq, jA, jB, jC, jD, jE, jF]) (by simp (decide := true) only [go_sem, reduceIte, reduceCtorEq, jA, jB, jC, jD, jE, jF, hml]) (by simp [cr_len, anyRows_len]) hz2 (by omega) (by omega) (by omega) (by omega) ?_)
        intro j'
        have hik2 : i ≤ xs.length + 1 := by omega
        have hlj2 : xs.length + 1 ≤ xs.length + 1 + j' := by omega
        have ht0 : ((cr xs ++ anyRows j 2).drop 0).take i = cr (xs.take i) := by rw [List.drop_zero, List.take_append_of_le_length (by omega), cr_take]
        simp only [ht0, hik]
        simp (decide := true) only [go_sem, reduceIte, reduceCtorEq, jA, jB, jC, jD, jE, jF]
        (repeat (first | refine kA ?_ | refine kB ?_ | ((first | (refine kC (N := 95) rfl (by kernel_rfl) ?_) | (apply kJ (id := 11) (N := 95) kpm15; kernel_rfl; rfl; kernel_rfl; (repeat (first | exact Picks.nil | (apply Picks.cons; rfl)))) | (apply kJ (id := 15) (N := 95) kpm15; kernel_rfl; rfl; kernel_rfl; (repeat (first | exact Picks.nil | (apply Picks.cons; rfl)))) | refine kD ?_ | refine kE ?_); simp (decide := true) only [go_sem, reduceIte, reduceCtorEq, jA, jB, jC, jD, jE, jF, hik2, hlj2])))
        have hzt0 : RowsSz 2 (cr (xs.take i)) := cr_sz fun r hr => hz r (List.mem_of_mem_take hr)
        have hzt : RowsSz 2 (cr (xs.take i) ++ anyRows (xs.length + 1 - i + j') 2) := fun r hr => (List.mem_append.1 hr).elim (hzt0 r) (anyRows_sz _ 2 r)
        have hzt2 : RowsSz 2 (cr (xs.take i) ++ v.map T.c :: anyRows (xs.length - i + j') 2) := fun r hr => by
          simp only [List.mem_append, List.mem_cons] at hr
          rcases hr with h | rfl | h
          · exact hzt0 r h
          · exact hvT
          · exact anyRows_sz _ 2 r h
        have hti : (cr (xs.take i)).length = i := by simp [cr_len]; omega
        have g1 := ins_grow1 (cr xs) (v.map T.c) i j' 2 hlt'
        have g2 := ins_grow2 (cr xs) (v.map T.c) i j' 2 hlt'
        rw [cr_take, hcl] at g1 g2
        refine StepC.mk (Step.copyTo (n := 40) (sz := 2) (i := i) (len := xs.length + 1 - i) (cap := xs.length + 1 + j' - i) (ys := [v.map T.c]) (rows := cr (xs.take i) ++ anyRows (xs.length + 1 - i + j') 2) (rows' := cr (xs.take i) ++ v.map T.c :: anyRows (xs.length - i + j') 2) (c := 1)
          rfl (by simp (decide := true) only [go_sem, reduceIte, reduceCtorEq, jA, jB, jC, jD, jE, jF]) (by simp (decide := true) only [go_sem, reduceIte, reduceCtorEq, jA, jB, jC, jD, jE, jF]) (by simp (decide := true) only [go_sem, reduceIte, reduceCtorEq, jA, jB, jC, jD, jE, jF]) (by simp only [List.length_append, anyRows_len, hti]; omega) hzt (srcOne (n := a + NB) (by simp (decide := true) only [go_sem, reduceIte, reduceCtorEq, jA, jB, jC, jD, jE, jF]) (by simp (decide := true) only [go_sem, reduceIte, reduceCtorEq, jA, jB, jC, jD, jE, jF, hmq]) hvT) (by simp <;> omega) g1 ?_)
        have hi1 : i + 1 ≤ xs.length + 1 := by omega
        simp (decide := true) only [go_sem, reduceIte, reduceCtorEq, jA, jB, jC, jD, jE, jF]
        (repeat (first | refine kA ?_ | refine kB ?_ | ((first | (refine kC (N := 95) rfl (by kernel_rfl) ?_) | (apply kJ (id := 11) (N := 95) kpm15; kernel_rfl; rfl; kernel_rfl; (repeat (first | exact Picks.nil | (apply Picks.cons; rfl)))) | (apply kJ (id := 15) (N := 95) kpm15; kernel_rfl; rfl; kernel_rfl; (repeat (first | exact Picks.nil | (apply Picks.cons; rfl)))) | refine kD ?_ | refine kE ?_); simp (decide := true) only [go_sem, reduceIte, reduceCtorEq, jA, jB, jC, jD, jE, jF, hw3, hi1, hlj2, hi, hlj])))
        refine StepC.mk (Step.copyTo (n := 40) (sz := 2) (i := i + 1) (len := xs.length + 1 - (i + 1)) (cap := xs.length + 1 + j' - (i + 1)) (ys := (cr xs).drop i) (rows := cr (xs.take i) ++ v.map T.c :: anyRows (xs.length - i + j') 2) (rows' := cr (xs.take i) ++ (v.map T.c :: ((cr xs).drop i ++ anyRows j' 2))) (c := xs.length - i)
          rfl (by simp (decide := true) only [go_sem, reduceIte, reduceCtorEq, jA, jB, jC, jD, jE, jF]) (by simp (decide := true) only [go_sem, reduceIte, reduceCtorEq, jA, jB, jC, jD, jE, jF]) (by simp (decide := true) only [go_sem, reduceIte, reduceCtorEq, jA, jB, jC, jD, jE, jF]) (by simp only [List.length_append, List.length_cons, anyRows_len, hti]; omega) hzt2
          (srcBa (n := 1000) (i := i) (len := xs.length - i) (cap := xs.length + j - i) (rows := cr xs ++ anyRows j 2) (by simp (decide := true) only [go_sem, reduceIte, reduceCtorEq, jA, jB, jC, jD, jE, jF]) (by simp (decide := true) only [go_sem, reduceIte, reduceCtorEq, jA, jB, jC, jD, jE, jF, hml]) (by simp only [List.length_append, anyRows_len, hcl]; omega) hz2 (by rw [List.drop_append_of_le_length (by omega), List.take_append_of_le_length (by simp [cr_len]), List.take_of_length_le (by simp [cr_len])])) (by simp [cr_len] <;> omega) g2 ?_)
        simp (decide := true) only [go_sem, reduceIte, reduceCtorEq, jA, jB, jC, jD, jE, jF]
        (repeat (first | refine kA ?_ | refine kB ?_ | ((first | (refine kC (N := 95) rfl (by kernel_rfl) ?_) | (apply kJ (id := 11) (N := 95) kpm15; kernel_rfl; rfl; kernel_rfl; (repeat (first | exact Picks.nil | (apply Picks.cons; rfl)))) | (apply kJ (id := 15) (N := 95) kpm15; kernel_rfl; rfl; kernel_rfl; (repeat (first | exact Picks.nil | (apply Picks.cons; rfl)))) | refine kD ?_ | refine kE ?_); simp (decide := true) only [go_sem, reduceIte, reduceCtorEq, jA, jB, jC, jD, jE, jF])))
        refine kK (DS.Sub.trans (sub_mv 40 1000 (by decide)) (kM (N := 95) (sls := [(6, .one (.ba 1000 2 0 (xs.length + 1) (xs.length + 1 + j')))]) (bxs := [(1000, cr (xs.take i ++ v :: xs.drop i) ++ anyRows j' 2)]) rfl (by simp (decide := true) only [go_sem, reduceIte, reduceCtorEq, jA, jB, jC, jD, jE, jF]) (by simp (decide := true) only [go_sem, reduceIte, reduceCtorEq, jA, jB, jC, jD, jE, jF, cr_append, cr_cons, cr_drop, List.append_assoc]))) ?_
        refine kF ?_; simp (decide := true) only [go_sem, reduceIte, reduceCtorEq, jA, jB, jC, jD, jE, jF]
        exact ⟨j', rfl, rfl⟩
      · simp
    · have hg : decide (((xs.length + j : Nat) : Int) < ((xs.length + 1 : Nat) : Int)) = false := by simp; omega
      (repeat (first | refine kA ?_ | refine kB ?_ | ((first | (refine kC (N := 95) rfl (by kernel_rfl) ?_) | (apply kJ (id := 11) (N := 95) kpm15; kernel_rfl; rfl; kernel_rfl; (repeat (first | exact Picks.nil | (apply Picks.cons; rfl)))) | (apply kJ (id := 15) (N := 95) kpm15; kernel_rfl; rfl; kernel_rfl; (repeat (first | exact Picks.nil | (apply Picks.cons; rfl)))) | refine kD ?_ | refine kE ?_); simp (decide := true) only [go_sem, reduceIte, reduceCtorEq, jA, jB, jC, jD, jE, jF, hi, hib, hlj, he, hw1, hg])))
      apply kG; (simp (decide := true) only [go_sem, reduceIte, reduceCtorEq, jA, jB, jC, jD, jE, jF]; rfl)
      · simp
      intro _
      have hj1 : xs.length + 1 ≤ xs.length + j := by omega
      have h0l := Nat.zero_le (xs.length + 1)
      have hi1 : i + 1 ≤ xs.length + 1 := by omega
      (repeat (first | refine kA ?_ | refine kB ?_ | ((first | (refine kC (N := 95) rfl (by kernel_rfl) ?_) | (apply kJ (id := 11) (N := 95) kpm15; kernel_rfl; rfl; kernel_rfl; (repeat (first | exact Picks.nil | (apply Picks.cons; rfl)))) | (apply kJ (id := 15) (N := 95) kpm15; kernel_rfl; rfl; kernel_rfl; (repeat (first | exact Picks.nil | (apply Picks.cons; rfl)))) | refine kD ?_ | refine kE ?_); simp (decide := true) only [go_sem, reduceIte, reduceCtorEq, jA, jB, jC, jD, jE, jF, hi, hib, hlj, he, hw1, hw3, hj1, h0l, Nat.sub_zero, hi1])))
      refine CallC.step (Step.overlaps (t := 31) (tr := 4) (q := a + NB) (sz := 2) (m := 1) (rowsq := [v.map T.c]) (n := 1000) (i := i + 1) (len := xs.length + 1 - (i + 1)) (cap := xs.length + j - (i + 1)) (rows := cr xs ++ anyRows j 2) rfl (by simp (decide := true) only [go_sem, reduceIte, reduceCtorEq, jA, jB, jC, jD, jE, jF]) Tryd.func99 (by kernel_rfl) (by kernel_rfl) (by kernel_rfl) (by kernel_rfl) Tryd.underlying31 (inf := Tryd.t49) (by kernel_rfl)
        (by simp (decide := true) only [go_sem, reduceIte, reduceCtorEq, jA, jB, jC, jD, jE, jF]) (by simp (decide := true) only [go_sem, reduceIte, reduceCtorEq, jA, jB, jC, jD, jE, jF, hmq]) (by simp) (by omega) (by omega) (by simp (decide := true) only [go_sem, reduceIte, reduceCtorEq, jA, jB, jC, jD, jE, jF]) (by simp (decide := true) only [go_sem, reduceIte, reduceCtorEq, jA, jB, jC, jD, jE, jF, hml]) (fun e => by have := congrArg List.length e; simp [anyRows_len, cr_len] at this; omega) hz2 (by omega) hqn ?_)
      simp (decide := true) only [go_sem, reduceIte, reduceCtorEq, jA, jB, jC, jD, jE, jF]
      (repeat (first | refine kA ?_ | refine kB ?_ | ((first | (refine kC (N := 95) rfl (by kernel_rfl) ?_) | (apply kJ (id := 11) (N := 95) kpm15; kernel_rfl; rfl; kernel_rfl; (repeat (first | exact Picks.nil | (apply Picks.cons; rfl)))) | (apply kJ (id := 15) (N := 95) kpm15; kernel_rfl; rfl; kernel_rfl; (repeat (first | exact Picks.nil | (apply Picks.cons; rfl)))) | refine kD ?_ | refine kE ?_); simp (decide := true) only [go_sem, reduceIte, reduceCtorEq, jA, jB, jC, jD, jE, jF])))
      apply kG; (simp (decide := true) only [go_sem, reduceIte, reduceCtorEq, jA, jB, jC, jD, jE, jF]; rfl)
      · intro _
        have hi2 : i ≤ xs.length + 1 := by omega
        have hRl : xs.length + j = (cr xs ++ anyRows j 2).length := by simp [anyRows_len, cr_len]
        have g1 := ins_room1 (cr xs) i j 2 hlt' hj0
        have g2 := ins_room2 (cr xs) (v.map T.c) i (j - 1) 2 hlt'
        rw [cr_take, hcl] at g1 g2
        have hzr2 : RowsSz 2 (cr (xs.take (i + 1)) ++ ((cr xs).drop i ++ anyRows (j - 1) 2)) := fun r hr => by
          simp only [List.mem_append] at hr
          rcases hr with h | h | h
          · exact cr_sz (fun r hr => hz r (List.mem_of_mem_take hr)) r h
          · exact hzr r (List.mem_of_mem_drop h)
          · exact anyRows_sz _ 2 r h
        (repeat (first | refine kA ?_ | refine kB ?_ | ((first | (refine kC (N := 95) rfl (by kernel_rfl) ?_) | (apply kJ (id := 11) (N := 95) kpm15; kernel_rfl; rfl; kernel_rfl; (repeat (first | exact Picks.nil | (apply Picks.cons; rfl)))) | (apply kJ (id := 15) (N := 95) kpm15; kernel_rfl; rfl; kernel_rfl; (repeat (first | exact Picks.nil | (apply Picks.cons; rfl)))) | refine kD ?_ | refine kE ?_); simp (decide := true) only [go_sem, reduceIte, reduceCtorEq, jA, jB, jC, jD, jE, jF, hi, hib, hlj, he, hw1, hw3, hj1, h0l, Nat.sub_zero, hi1, hi2])))
        refine StepC.mk (Step.copyTo (n := 1000) (sz := 2) (i := i + 1) (len := xs.length + 1 - (i + 1)) (cap := xs.length + j - (i + 1)) (ys := ((cr xs ++ anyRows j 2).drop i).take (xs.length + 1 - i)) (rows := cr xs ++ anyRows j 2) (rows' := cr (xs.take (i + 1)) ++ ((cr xs).drop i ++ anyRows (j - 1) 2)) (c := xs.length - i)
          rfl (by simp (decide := true) only [go_sem, reduceIte, reduceCtorEq, jA, jB, jC, jD, jE, jF]) (by simp (decide := true) only [go_sem, reduceIte, reduceCtorEq, jA, jB, jC, jD, jE, jF]) (by simp (decide := true) only [go_sem, reduceIte, reduceCtorEq, jA, jB, jC, jD, jE, jF, hml]) (by rw [← hRl]; omega) hz2
          (srcBa (n := 1000) (i := i) (len := xs.length + 1 - i) (cap := xs.length + j - i) (rows := cr xs ++ anyRows j 2) (by simp (decide := true) only [go_sem, reduceIte, reduceCtorEq, jA, jB, jC, jD, jE, jF]) (by simp (decide := true) only [go_sem, reduceIte, reduceCtorEq, jA, jB, jC, jD, jE, jF, hml]) (by rw [← hRl]; omega) hz2 rfl) (by simp [anyRows_len, cr_len]; omega) g1 ?_)
        simp (decide := true) only [go_sem, reduceIte, reduceCtorEq, jA, jB, jC, jD, jE, jF]
        (repeat (first | refine kA ?_ | refine kB ?_ | ((first | (refine kC (N := 95) rfl (by kernel_rfl) ?_) | (apply kJ (id := 11) (N := 95) kpm15; kernel_rfl; rfl; kernel_rfl; (repeat (first | exact Picks.nil | (apply Picks.cons; rfl)))) | (apply kJ (id := 15) (N := 95) kpm15; kernel_rfl; rfl; kernel_rfl; (repeat (first | exact Picks.nil | (apply Picks.cons; rfl)))) | refine kD ?_ | refine kE ?_); simp (decide := true) only [go_sem, reduceIte, reduceCtorEq, jA, jB, jC, jD, jE, jF, hi, hib, hlj, he, hw1, hw3, hj1, h0l, Nat.sub_zero, hi1, hi2])))
        have hti : (cr (xs.take (i + 1))).length = i + 1 := by simp [cr_len]; omega
        rw [cr_take] at g2
        refine StepC.mk (Step.copyTo (n := 1000) (sz := 2) (i := i) (len := xs.length + 1 - i) (cap := xs.length + j - i) (ys := [v.map T.c]) (rows := cr (xs.take (i + 1)) ++ ((cr xs).drop i ++ anyRows (j - 1) 2)) (rows' := cr (xs.take i) ++ (v.map T.c :: ((cr xs).drop i ++ anyRows (j - 1) 2))) (c := 1)
          rfl (by simp (decide := true) only [go_sem, reduceIte, reduceCtorEq, jA, jB, jC, jD, jE, jF]) (by simp (decide := true) only [go_sem, reduceIte, reduceCtorEq, jA, jB, jC, jD, jE, jF]) (by simp (decide := true) only [go_sem, reduceIte, reduceCtorEq, jA, jB, jC, jD, jE, jF]) (by simp only [List.length_append, List.length_drop, anyRows_len, hti, hcl]; omega) hzr2 (srcOne (n := a + NB) (by simp (decide := true) only [go_sem, reduceIte, reduceCtorEq, jA, jB, jC, jD, jE, jF]) (by simp (decide := true) only [go_sem, reduceIte, reduceCtorEq, jA, jB, jC, jD, jE, jF, hmq]) hvT) (by simp <;> omega) g2 ?_)
        simp (decide := true) only [go_sem, reduceIte, reduceCtorEq, jA, jB, jC, jD, jE, jF]
        (repeat (first | refine kA ?_ | refine kB ?_ | ((first | (refine kC (N := 95) rfl (by kernel_rfl) ?_) | (apply kJ (id := 11) (N := 95) kpm15; kernel_rfl; rfl; kernel_rfl; (repeat (first | exact Picks.nil | (apply Picks.cons; rfl)))) | (apply kJ (id := 15) (N := 95) kpm15; kernel_rfl; rfl; kernel_rfl; (repeat (first | exact Picks.nil | (apply Picks.cons; rfl)))) | refine kD ?_ | refine kE ?_); simp (decide := true) only [go_sem, reduceIte, reduceCtorEq, jA, jB, jC, jD, jE, jF])))
        have hjj : xs.length + 1 + (j - 1) = xs.length + j := by omega
        refine kK (kM (N := 95) (sls := [(6, .one (.ba 1000 2 0 (xs.length + 1) (xs.length + 1 + (j - 1))))]) (bxs := [(1000, cr (xs.take i ++ v :: xs.drop i) ++ anyRows (j - 1) 2)]) rfl (by simp (decide := true) only [go_sem, reduceIte, reduceCtorEq, jA, jB, jC, jD, jE, jF, hjj]) (by simp (decide := true) only [go_sem, reduceIte, reduceCtorEq, jA, jB, jC, jD, jE, jF, cr_append, cr_cons, cr_drop, List.append_assoc])) ?_
        refine kF ?_; simp (decide := true) only [go_sem, reduceIte, reduceCtorEq, jA, jB, jC, jD, jE, jF]
        exact ⟨j - 1, rfl, rfl⟩
      · simp
  · have hie : i = xs.length := by omega
    have he : ((i : Int) == (xs.length : Int)) = true := by simp; omega
    (repeat (first | refine kA ?_ | refine kB ?_ | ((first | (refine kC (N := 95) rfl (by kernel_rfl) ?_) | (apply kJ (id := 11) (N := 95) kpm15; kernel_rfl; rfl; kernel_rfl; (repeat (first | exact Picks.nil | (apply Picks.cons; rfl)))) | (apply kJ (id := 15) (N := 95) kpm15; kernel_rfl; rfl; kernel_rfl; (repeat (first | exact Picks.nil | (apply Picks.cons; rfl)))) | refine kD ?_ | refine kE ?_); simp (decide := true) only [go_sem, reduceIte, reduceCtorEq, jA, jB, jC, jD, jE, jF, hi, hib, hlj, he])))
    apply kG; (simp (decide := true) only [go_sem, reduceIte, reduceCtorEq, jA, jB, jC, jD, jE, jF]; rfl)
    · simp
    intro _
    (repeat (first | refine kA ?_ | refine kB ?_ | ((first | (refine kC (N := 95) rfl (by kernel_rfl) ?_) | (apply kJ (id := 11) (N := 95) kpm15; kernel_rfl; rfl; kernel_rfl; (repeat (first | exact Picks.nil | (apply Picks.cons; rfl)))) | (apply kJ (id := 15) (N := 95) kpm15; kernel_rfl; rfl; kernel_rfl; (repeat (first | exact Picks.nil | (apply Picks.cons; rfl)))) | refine kD ?_ | refine kE ?_); simp (decide := true) only [go_sem, reduceIte, reduceCtorEq, jA, jB, jC, jD, jE, jF, hi, hib, hlj, he])))
    apply kG; (simp (decide := true) only [go_sem, reduceIte, reduceCtorEq, jA, jB, jC, jD, jE, jF]; rfl)
    · intro _
      (repeat (first | refine kA ?_ | refine kB ?_ | ((first | (refine kC (N := 95) rfl (by kernel_rfl) ?_) | (apply kJ (id := 11) (N := 95) kpm15; kernel_rfl; rfl; kernel_rfl; (repeat (first | exact Picks.nil | (apply Picks.cons; rfl)))) | (apply kJ (id := 15) (N := 95) kpm15; kernel_rfl; rfl; kernel_rfl; (repeat (first | exact Picks.nil | (apply Picks.cons; rfl)))) | refine kD ?_ | refine kE ?_); simp (decide := true) only [go_sem, reduceIte, reduceCtorEq, jA, jB, jC, jD, jE, jF, hi, hib, hlj, he])))
      refine StepC.mk (Step.appendList (n := 1000) (rows := cr xs) (ys := [v.map T.c]) (j := j) (sz := 2) (by_ := 16) rfl rfl (by simp (decide := true) only [go_sem, reduceIte, reduceCtorEq, jA, jB, jC, jD, jE, jF]) (by simp (decide := true) only [go_sem, reduceIte, reduceCtorEq, jA, jB, jC, jD, jE, jF, hcl]) (by simp (decide := true) only [go_sem, reduceIte, reduceCtorEq, jA, jB, jC, jD, jE, jF, hml]) hzr (srcOne (n := a + NB) (by simp (decide := true) only [go_sem, reduceIte, reduceCtorEq, jA, jB, jC, jD, jE, jF]) (by simp (decide := true) only [go_sem, reduceIte, reduceCtorEq, jA, jB, jC, jD, jE, jF, hmq]) hvT) (by simp [cr_len]; omega) ?_)
      intro j'
      simp (decide := true) only [go_sem, reduceIte, reduceCtorEq, jA, jB, jC, jD, jE, jF, hcl]
      (repeat (first | refine kA ?_ | refine kB ?_ | ((first | (refine kC (N := 95) rfl (by kernel_rfl) ?_) | (apply kJ (id := 11) (N := 95) kpm15; kernel_rfl; rfl; kernel_rfl; (repeat (first | exact Picks.nil | (apply Picks.cons; rfl)))) | (apply kJ (id := 15) (N := 95) kpm15; kernel_rfl; rfl; kernel_rfl; (repeat (first | exact Picks.nil | (apply Picks.cons; rfl)))) | refine kD ?_ | refine kE ?_); simp (decide := true) only [go_sem, reduceIte, reduceCtorEq, jA, jB, jC, jD, jE, jF])))
      have hta : xs.take i ++ v :: xs.drop i = xs ++ [v] := by subst hie; simp
      refine kK (DS.Sub.trans (sub_mv 25 1000 (by decide)) (kM (N := 95) (sls := [(6, .one (.ba 1000 2 0 (xs.length + 1) (xs.length + 1 + j')))]) (bxs := [(1000, cr (xs.take i ++ v :: xs.drop i) ++ anyRows j' 2)]) rfl (by simp (decide := true) only [go_sem, reduceIte, reduceCtorEq, jA, jB, jC, jD, jE, jF, hcl]) (by simp (decide := true) only [go_sem, reduceIte, reduceCtorEq, jA, jB, jC, jD, jE, jF, hta, cr_append, cr_cons, cr_nil, List.append_assoc]))) ?_
      refine kF ?_; simp (decide := true) only [go_sem, reduceIte, reduceCtorEq, jA, jB, jC, jD, jE, jF]
      exact ⟨j', rfl, rfl⟩
    · simp [hie]


set_option maxRecDepth 10000 in
set_option maxHeartbeats 2000000 in
theorem cloneS_E (xs : List (List Dl.C)) (hz : ∀ r ∈ xs, r.length = 2) (hl : xs.length ≤ 2000000) :
    ECalls Tryd.prog 52 [dv (.sl 2 xs)] noMem (fun r H' => ∃ j, r = .one (.ba 0 2 0 xs.length (xs.length + j)) ∧ H' = ml [(0, cr xs ++ anyRows j 2)]) := by
  refine ecalls (N := 8) (rs := [.tmp 2]) (by kernel_rfl) Tryd.func52 rfl rfl rfl (by simp) ?_
  cases xs with
  | nil =>
    refine dw_emp (sz := 2) 0 (by simp (decide := true) only [go_sem, reduceIte, reduceCtorEq, jA, jB, jC, jD, jE, jF]) ?_ (fun a cap hcap => ?_)
    · (repeat (first | refine kA ?_ | refine kB ?_ | ((first | (refine kC (N := 8) rfl (by kernel_rfl) ?_) | refine kD ?_ | refine kE ?_); simp (decide := true) only [go_sem, reduceIte, reduceCtorEq, jA, jB, jC, jD, jE, jF])))
      apply kG; (simp (decide := true) only [go_sem, reduceIte, reduceCtorEq, jA, jB, jC, jD, jE, jF]; rfl)
      · intro _
        (repeat (first | refine kA ?_ | refine kB ?_ | ((first | (refine kC (N := 8) rfl (by kernel_rfl) ?_) | refine kD ?_ | refine kE ?_); simp (decide := true) only [go_sem, reduceIte, reduceCtorEq, jA, jB, jC, jD, jE, jF])))
        refine kK (DS.Sub.trans (sub_zero 2 0 2 (.inl (by simp (decide := true) only [go_sem, reduceIte, reduceCtorEq, jA, jB, jC, jD, jE, jF]))) (kM (N := 8) (sls := [(2, .one (.ba 0 2 0 0 0))]) (bxs := [(0, [])]) rfl (by simp (decide := true) only [go_sem, reduceIte, reduceCtorEq, jA, jB, jC, jD, jE, jF]) (by simp (decide := true) only [go_sem, reduceIte, reduceCtorEq, jA, jB, jC, jD, jE, jF]))) ?_
        refine kF ?_; simp (decide := true) only [go_sem, reduceIte, reduceCtorEq, jA, jB, jC, jD, jE, jF]
        exact ⟨0, rfl, rfl⟩
      · simp
    · (repeat (first | refine kA ?_ | refine kB ?_ | ((first | (refine kC (N := 8) rfl (by kernel_rfl) ?_) | refine kD ?_ | refine kE ?_); simp (decide := true) only [go_sem, reduceIte, reduceCtorEq, jA, jB, jC, jD, jE, jF])))
      apply kG; (simp (decide := true) only [go_sem, reduceIte, reduceCtorEq, jA, jB, jC, jD, jE, jF]; rfl)
      · simp
      intro _
      refine kD ?_
      simp (decide := true) only [go_sem, reduceIte, reduceCtorEq, jA, jB, jC, jD, jE, jF]
      refine kK (s' := kn 8 [(0, dv (.sl 2 []))] noMem) (kL rfl ⟨.inr (by simp (decide := true) only [go_sem, reduceIte, reduceCtorEq, jA, jB, jC, jD, jE, jF]; exact DLe.emp 2 hcap), trivial⟩ (by simp [noMem])) ?_
      refine kA ?_
      refine dw_regM (N := 8) [.hand] rfl (by kernel_rfl) ?_
      simp (decide := true) only [go_sem, reduceIte, reduceCtorEq, jA, jB, jC, jD, jE, jF]
      refine StepC.mk (Step.buildNone (sz := 2) rfl rfl (by simp (decide := true) only [go_sem, reduceIte, reduceCtorEq, jA, jB, jC, jD, jE, jF]) ?_)
      simp (decide := true) only [go_sem, reduceIte, reduceCtorEq, jA, jB, jC, jD, jE, jF]
      refine StepC.mk (Step.appendList (n := 5) (sz := 2) (by_ := 32) (rows := []) (j := 0) (ys := []) rfl rfl (by simp (decide := true) only [go_sem, reduceIte, reduceCtorEq, jA, jB, jC, jD, jE, jF]) (by simp (decide := true) only [go_sem, reduceIte, reduceCtorEq, jA, jB, jC, jD, jE, jF]) (by simp (decide := true) only [go_sem, reduceIte, reduceCtorEq, jA, jB, jC, jD, jE, jF]) (by simp [RowsSz]) (srcSl (ys := []) (by simp (decide := true) only [go_sem, reduceIte, reduceCtorEq, jA, jB, jC, jD, jE, jF])) (by simp) ?_)
      intro j'
      simp (decide := true) only [go_sem, reduceIte, reduceCtorEq, jA, jB, jC, jD, jE, jF]
      (repeat' (first | refine kA ?_ | refine kB ?_ | ((first | (refine kC (N := 8) rfl (by kernel_rfl) ?_) | refine kD ?_ | refine kE ?_); simp (decide := true) only [go_sem, reduceIte, reduceCtorEq, jA, jB, jC, jD, jE, jF]) | (apply kG; (simp (decide := true) only [go_sem, reduceIte, reduceCtorEq, jA, jB, jC, jD, jE, jF]; rfl); all_goals (intro hcnd; first | (exact absurd hcnd (by decide)) | skip))))
      refine kK (DS.Sub.trans (sub_mv 7 0 (by omega)) (kM (N := 8) (sls := [(2, .one (.ba 0 2 0 0 (0 + j')))]) (bxs := [(0, cr [] ++ anyRows j' 2)]) rfl (by simp (decide := true) only [go_sem, reduceIte, reduceCtorEq, jA, jB, jC, jD, jE, jF]) (by simp (decide := true) only [go_sem, reduceIte, reduceCtorEq, jA, jB, jC, jD, jE, jF, cr_nil]))) ?_
      refine kF ?_; simp (decide := true) only [go_sem, reduceIte, reduceCtorEq, jA, jB, jC, jD, jE, jF]
      exact ⟨j', rfl, rfl⟩
  | cons x xs =>
    (repeat (first | refine kA ?_ | refine kB ?_ | ((first | (refine kC (N := 8) rfl (by kernel_rfl) ?_) | refine kD ?_ | refine kE ?_); simp (decide := true) only [go_sem, reduceIte, reduceCtorEq, jA, jB, jC, jD, jE, jF])))
    apply kG; (simp (decide := true) only [go_sem, reduceIte, reduceCtorEq, jA, jB, jC, jD, jE, jF]; rfl)
    · simp
    intro _
    refine kD ?_
    simp (decide := true) only [go_sem, reduceIte, reduceCtorEq, jA, jB, jC, jD, jE, jF]
    refine kA ?_
    refine dw_regM (N := 8) [.hand] rfl (by kernel_rfl) ?_
    simp (decide := true) only [go_sem, reduceIte, reduceCtorEq, jA, jB, jC, jD, jE, jF]
    refine StepC.mk (Step.buildNone (sz := 2) rfl rfl (by simp (decide := true) only [go_sem, reduceIte, reduceCtorEq, jA, jB, jC, jD, jE, jF]) ?_)
    simp (decide := true) only [go_sem, reduceIte, reduceCtorEq, jA, jB, jC, jD, jE, jF]
    refine StepC.mk (Step.appendList (n := 5) (sz := 2) (by_ := 32) (rows := []) (j := 0) (ys := cr (x :: xs)) rfl rfl (by simp (decide := true) only [go_sem, reduceIte, reduceCtorEq, jA, jB, jC, jD, jE, jF]) (by simp (decide := true) only [go_sem, reduceIte, reduceCtorEq, jA, jB, jC, jD, jE, jF]) (by simp (decide := true) only [go_sem, reduceIte, reduceCtorEq, jA, jB, jC, jD, jE, jF]) (by simp [RowsSz]) (srcSl (by simp (decide := true) only [go_sem, reduceIte, reduceCtorEq, jA, jB, jC, jD, jE, jF])) (by simp only [cr_len, List.length_nil]; omega) ?_)
    intro j'
    simp (decide := true) only [go_sem, reduceIte, reduceCtorEq, jA, jB, jC, jD, jE, jF]
    (repeat' (first | refine kA ?_ | refine kB ?_ | ((first | (refine kC (N := 8) rfl (by kernel_rfl) ?_) | refine kD ?_ | refine kE ?_); simp (decide := true) only [go_sem, reduceIte, reduceCtorEq, jA, jB, jC, jD, jE, jF]) | (apply kG; (simp (decide := true) only [go_sem, reduceIte, reduceCtorEq, jA, jB, jC, jD, jE, jF]; rfl); all_goals (intro hcnd; first | (exact absurd hcnd (by decide)) | skip))))
    refine kK (DS.Sub.trans (sub_mv 7 0 (by omega)) (kM (N := 8) (sls := [(2, .one (.ba 0 2 0 (x :: xs).length ((x :: xs).length + j')))]) (bxs := [(0, cr (x :: xs) ++ anyRows j' 2)]) rfl (by simp (decide := true) only [go_sem, reduceIte, reduceCtorEq, jA, jB, jC, jD, jE, jF, cr_len]) (by simp (decide := true) only [go_sem, reduceIte, reduceCtorEq, jA, jB, jC, jD, jE, jF]))) ?_
    refine kF ?_; simp (decide := true) only [go_sem, reduceIte, reduceCtorEq, jA, jB, jC, jD, jE, jF]
    exact ⟨j', rfl, rfl⟩


end Go.Proofs.YtiaamlaibfpdgaaDoor

/- Entries: one sense more. -/
namespace Go.Proofs.YtiaamlaibfpdgaaDoor
open Go.Dl
open Go.Dl renaming dw_seq → kA, dw_block → kB, dw_reg → kC, dw_skip → kD, dw_exit → kE, dw_ret → kF, dw_cond → kG, guardC_f → kH, guardC_t → kI, dw_drw → kJ, dw_weaken → kK, sub_kn → kL, sub_ml → kM
open Go.Dl.CallC renaming mk → kN, light → kO
open Go.Dl.LeL renaming of_eq → kP
attribute [local irreducible] DW DCalls ECalls wk IW

def addE (e : Ent) (s : Sns) : Ent × Int := if 5 ≤ e.senses.length then (noEnt, 11) else if senseE e.senses s ≠ 0 then (noEnt, senseE e.senses s) else ({ e with senses := e.senses ++ [s] }, 0)

set_option maxRecDepth 10000 in

set_option maxHeartbeats 8000000 in
theorem rAdd_D (e : Ent) (s : Sns) (he : MidE e) (h1 : s.gloss.size ≤ 1048576) (h2 : s.txt.size ≤ 1048576) : DCalls Tryd.prog 27 [.agg e.row, .agg s.row] (.tup [.agg (addE e s).1.row, dv (li (addE e s).2)]) := by
  have hmax : maxLen = 9223372036854775807 := rfl
  have hS := rSense_D e.senses s (by have := he.senses; omega) h1 h2
  simp only [Sns.row] at hS
  refine dcalls (N := 29) (rs := [.cell 4 33, .tmp 5]) (by kernel_rfl) Tryd.func27 rfl rfl rfl (by simp) ?_
  rcases Bool.eq_false_or_eq_true (decide ((5 : Int) ≤ (e.senses.length : Int))) with t1 | t1
  · have n1 : 5 ≤ e.senses.length := by have := of_decide_eq_true t1; omega
    (repeat' (first | refine kA ?_ | refine kB ?_ | ((first | (refine kC (N := 29) rfl (by kernel_rfl) ?_) | (apply kJ (id := 6) (N := 29) BAD [(4, .blind), (5, .blind), (0, .light), (1, .light), (2, .light), (3, .step), (6, .step), (7, .light), (8, .step)]; kernel_rfl; rfl; kernel_rfl; (repeat (first | exact Picks.nil | (apply Picks.cons; rfl)))) | refine kD ?_ | refine kE ?_); simp (decide := true) only [go_sem, reduceIte, reduceCtorEq, jA, jB, jC, jD, jE, jF, t1, Ent.row, Sns.row]) | (apply kG; (simp (decide := true) only [go_sem, reduceIte, reduceCtorEq, jA, jB, jC, jD, jE, jF, t1, Ent.row, Sns.row]; rfl); all_goals (intro hcnd; first | (exact absurd hcnd (by decide)) | skip))))
    refine dw_exc 4 (by simp (decide := true) only [go_sem, reduceIte, reduceCtorEq, jA, jB, jC, jD, jE, jF]; rfl) ?_
    refine kF ?_; simp (decide := true) only [go_sem, reduceIte, reduceCtorEq, jA, jB, jC, jD, jE, jF]
    rw [addE, if_pos n1]; simp [Ent.row, noEnt]
  have n1 : ¬ 5 ≤ e.senses.length := by have := of_decide_eq_false t1; omega
  rcases Bool.eq_false_or_eq_true (senseE e.senses s != 0) with t2 | t2
  · have n2 : senseE e.senses s ≠ 0 := by simpa using t2
    (repeat' (first | refine kA ?_ | refine kB ?_ | ((first | (refine kC (N := 29) rfl (by kernel_rfl) ?_) | (apply kJ (id := 6) (N := 29) BAD [(4, .blind), (5, .blind), (0, .light), (1, .light), (2, .light), (3, .step), (6, .step), (7, .light), (8, .step)]; kernel_rfl; rfl; kernel_rfl; (repeat (first | exact Picks.nil | (apply Picks.cons; rfl)))) | refine kD ?_ | refine kE ?_ | (refine kN (hS) (kP rfl) ?_) | (refine kO (hS) (kP rfl) ?_)); simp (decide := true) only [go_sem, reduceIte, reduceCtorEq, jA, jB, jC, jD, jE, jF, t1, t2, Ent.row, Sns.row]) | (apply kG; (simp (decide := true) only [go_sem, reduceIte, reduceCtorEq, jA, jB, jC, jD, jE, jF, t1, t2, Ent.row, Sns.row]; rfl); all_goals (intro hcnd; first | (exact absurd hcnd (by decide)) | skip))))
    refine dw_exc 4 (by simp (decide := true) only [go_sem, reduceIte, reduceCtorEq, jA, jB, jC, jD, jE, jF]; rfl) ?_
    refine kF ?_; simp (decide := true) only [go_sem, reduceIte, reduceCtorEq, jA, jB, jC, jD, jE, jF]
    rw [addE, if_neg n1, if_pos n2]; simp [Ent.row, noEnt]
  have n2 : ¬ senseE e.senses s ≠ 0 := by simpa using t2
  have r1 : (e.senses.length * 32 ≤ 140737488355328) = True := eq_true (by omega)
  have r2 : ((e.senses.length + 1) * 32 ≤ 140737488355328) = True := eq_true (by omega)
  (repeat' (first | refine kA ?_ | refine kB ?_ | ((first | (refine kC (N := 29) rfl (by kernel_rfl) ?_) | (apply kJ (id := 6) (N := 29) BAD [(4, .blind), (5, .blind), (0, .light), (1, .light), (2, .light), (3, .step), (6, .step), (7, .light), (8, .step)]; kernel_rfl; rfl; kernel_rfl; (repeat (first | exact Picks.nil | (apply Picks.cons; rfl)))) | refine kD ?_ | refine kE ?_ | (refine kN (hS) (kP rfl) ?_) | (refine kO (hS) (kP rfl) ?_)); simp (decide := true) only [go_sem, reduceIte, reduceCtorEq, jA, jB, jC, jD, jE, jF, t1, t2, r1, r2, Ent.row, Sns.row]) | (apply kG; (simp (decide := true) only [go_sem, reduceIte, reduceCtorEq, jA, jB, jC, jD, jE, jF, t1, t2, r1, r2, Ent.row, Sns.row]; rfl); all_goals (intro hcnd; first | (exact absurd hcnd (by decide)) | skip))))
  have hadd : addE e s = ({ e with senses := e.senses ++ [s] }, 0) := by rw [addE, if_neg n1, if_neg n2]
  rw [hadd]
  apply dw_treeQ (id := 6) (N := 29) [1] [] (.thr 0 (.two 2 (.two 3 (.run [4, 5, 6, 7, 8] .leaf) 4 (.two 3 (.run [5, 6, 7, 8] .leaf) 5 (.run [3, 6, 7, 8] .leaf))) 4 (.two 2 (.two 3 (.run [5, 6, 7, 8] .leaf) 5 (.run [3, 6, 7, 8] .leaf)) 5 (.run [2, 3, 6, 7, 8] .leaf))) 2 (.two 0 (.two 3 (.run [4, 5, 6, 7, 8] .leaf) 4 (.two 3 (.run [5, 6, 7, 8] .leaf) 5 (.run [3, 6, 7, 8] .leaf))) 4 (.two 0 (.two 3 (.run [5, 6, 7, 8] .leaf) 5 (.run [3, 6, 7, 8] .leaf)) 5 (.run [0, 3, 6, 7, 8] .leaf))) 4 (.thr 0 (.two 2 (.two 3 (.run [5, 6, 7, 8] .leaf) 5 (.run [3, 6, 7, 8] .leaf)) 5 (.run [2, 3, 6, 7, 8] .leaf)) 2 (.two 0 (.two 3 (.run [5, 6, 7, 8] .leaf) 5 (.run [3, 6, 7, 8] .leaf)) 5 (.run [0, 3, 6, 7, 8] .leaf)) 5 (.two 0 (.run [2, 3, 6, 7, 8] .leaf) 2 (.run [0, 3, 6, 7, 8] .leaf))))
  kernel_rfl
  rfl
  kernel_rfl
  simp (decide := true) only [go_sem, reduceIte, reduceCtorEq, jA, jB, jC, jD, jE, jF, r1, r2, Sns.row]
  (repeat' apply And.intro) <;>
    ((repeat' (first | refine kA ?_ | refine kB ?_ | ((first | (refine kC (N := 29) rfl (by kernel_rfl) ?_) | (apply kJ (id := 6) (N := 29) BAD [(4, .blind), (5, .blind), (0, .light), (1, .light), (2, .light), (3, .step), (6, .step), (7, .light), (8, .step)]; kernel_rfl; rfl; kernel_rfl; (repeat (first | exact Picks.nil | (apply Picks.cons; rfl)))) | refine kD ?_ | refine kE ?_); simp (decide := true) only [go_sem, reduceIte, reduceCtorEq, jA, jB, jC, jD, jE, jF, Ent.row]) | (apply kG; (simp (decide := true) only [go_sem, reduceIte, reduceCtorEq, jA, jB, jC, jD, jE, jF, Ent.row]; rfl); all_goals (intro hcnd; first | (exact absurd hcnd (by decide)) | skip))))
     refine dw_exc 4 (by simp (decide := true) only [go_sem, reduceIte, reduceCtorEq, jA, jB, jC, jD, jE, jF]; rfl) ?_
     refine kF ?_; simp (decide := true) only [go_sem, reduceIte, reduceCtorEq, jA, jB, jC, jD, jE, jF]
     simp [Ent.row, Sns.enc])

set_option maxRecDepth 10000 in

set_option maxHeartbeats 8000000 in
theorem add_D (e : Ent) (s : Sns) : DCalls Tryd.prog 26 [.agg e.row, .agg s.row] (.tup [.agg (addE e s).1.row, dv (li (addE e s).2)]) := by
  have hmax : maxLen = 9223372036854775807 := rfl
  refine dcalls_grant (p := OkE e ∧ True) (by kernel_rfl) (fun w K h => ?_) fun he => ?_
  · obtain ⟨v, hv⟩ := h (.agg e.row) (by simp)
    exact ⟨okE_of hv, trivial⟩
  have hS := sense_D e.senses s he.1.senses
  simp only [Sns.row] at hS
  refine dcalls (N := 28) (rs := [.cell 4 33, .tmp 5]) (by kernel_rfl) Tryd.func26 rfl rfl rfl (by simp) ?_
  rcases Bool.eq_false_or_eq_true (decide ((5 : Int) ≤ (e.senses.length : Int))) with t1 | t1
  · have n1 : 5 ≤ e.senses.length := by have := of_decide_eq_true t1; omega
    (repeat' (first | refine kA ?_ | refine kB ?_ | ((first | (refine kC (N := 28) rfl (by kernel_rfl) ?_) | (apply kJ (id := 6) (N := 28) BAD [(0, .light), (1, .light), (2, .fresh), (3, .light), (4, .light), (5, .step), (6, .light), (7, .step)]; kernel_rfl; rfl; kernel_rfl; (repeat (first | exact Picks.nil | (apply Picks.cons; rfl)))) | refine kD ?_ | refine kE ?_); simp (decide := true) only [go_sem, reduceIte, reduceCtorEq, jA, jB, jC, jD, jE, jF, t1, Ent.row, Sns.row]) | (apply kG; (simp (decide := true) only [go_sem, reduceIte, reduceCtorEq, jA, jB, jC, jD, jE, jF, t1, Ent.row, Sns.row]; rfl); all_goals (intro hcnd; first | (exact absurd hcnd (by decide)) | skip))))
    refine dw_exc 4 (by simp (decide := true) only [go_sem, reduceIte, reduceCtorEq, jA, jB, jC, jD, jE, jF]; rfl) ?_
    refine kF ?_; simp (decide := true) only [go_sem, reduceIte, reduceCtorEq, jA, jB, jC, jD, jE, jF]
    rw [addE, if_pos n1]; simp [Ent.row, noEnt]
  have n1 : ¬ 5 ≤ e.senses.length := by have := of_decide_eq_false t1; omega
  rcases Bool.eq_false_or_eq_true (senseE e.senses s != 0) with t2 | t2
  · have n2 : senseE e.senses s ≠ 0 := by simpa using t2
    (repeat' (first | refine kA ?_ | refine kB ?_ | ((first | (refine kC (N := 28) rfl (by kernel_rfl) ?_) | (apply kJ (id := 6) (N := 28) BAD [(0, .light), (1, .light), (2, .fresh), (3, .light), (4, .light), (5, .step), (6, .light), (7, .step)]; kernel_rfl; rfl; kernel_rfl; (repeat (first | exact Picks.nil | (apply Picks.cons; rfl)))) | refine kD ?_ | refine kE ?_ | (refine kN (hS) (kP rfl) ?_) | (refine kO (hS) (kP rfl) ?_)); simp (decide := true) only [go_sem, reduceIte, reduceCtorEq, jA, jB, jC, jD, jE, jF, t1, t2, Ent.row, Sns.row]) | (apply kG; (simp (decide := true) only [go_sem, reduceIte, reduceCtorEq, jA, jB, jC, jD, jE, jF, t1, t2, Ent.row, Sns.row]; rfl); all_goals (intro hcnd; first | (exact absurd hcnd (by decide)) | skip))))
    refine dw_exc 4 (by simp (decide := true) only [go_sem, reduceIte, reduceCtorEq, jA, jB, jC, jD, jE, jF]; rfl) ?_
    refine kF ?_; simp (decide := true) only [go_sem, reduceIte, reduceCtorEq, jA, jB, jC, jD, jE, jF]
    rw [addE, if_neg n1, if_pos n2]; simp [Ent.row, noEnt]
  have n2 : ¬ senseE e.senses s ≠ 0 := by simpa using t2
  have hys : (e.senses.map Sns.enc).length = e.senses.length := by simp
  have hz : ∀ r ∈ e.senses.map Sns.enc, r.length = 2 := fun r hr => by obtain ⟨x, _, rfl⟩ := List.mem_map.1 hr; rfl
  (repeat' (first | refine kA ?_ | refine kB ?_ | ((first | (refine kC (N := 28) rfl (by kernel_rfl) ?_) | (apply kJ (id := 6) (N := 28) BAD [(0, .light), (1, .light), (2, .fresh), (3, .light), (4, .light), (5, .step), (6, .light), (7, .step)]; kernel_rfl; rfl; kernel_rfl; (repeat (first | exact Picks.nil | (apply Picks.cons; rfl)))) | refine kD ?_ | refine kE ?_ | (refine kN (hS) (kP rfl) ?_) | (refine kO (hS) (kP rfl) ?_)); simp (decide := true) only [go_sem, reduceIte, reduceCtorEq, jA, jB, jC, jD, jE, jF, t1, t2, Ent.row, Sns.row]) | (apply kG; (simp (decide := true) only [go_sem, reduceIte, reduceCtorEq, jA, jB, jC, jD, jE, jF, t1, t2, Ent.row, Sns.row]; rfl); all_goals (intro hcnd; first | (exact absurd hcnd (by decide)) | skip))))
  apply dw_treeQ (id := 6) (N := 28) [0] [] (.two 1 (.two 2 (.run [3, 4, 5, 6, 7] .leaf) 3 (.two 2 (.run [4, 5, 6, 7] .leaf) 4 (.run [2, 5, 6, 7] .leaf))) 3 (.two 1 (.two 2 (.run [4, 5, 6, 7] .leaf) 4 (.run [2, 5, 6, 7] .leaf)) 4 (.run [1, 2, 5, 6, 7] .leaf)))
  kernel_rfl
  rfl
  kernel_rfl
  simp (decide := true) only [go_sem, reduceIte, reduceCtorEq, jA, jB, jC, jD, jE, jF, Sns.row]
  have hadd : addE e s = ({ e with senses := e.senses ++ [s] }, 0) := by rw [addE, if_neg n1, if_neg n2]
  rw [hadd]
  have hfz : ∀ r ∈ e.senses.map Sns.enc ++ [s.enc], r.length = 2 := fun r hr => by
    rcases List.mem_append.1 hr with h | h
    · exact hz r h
    · rw [List.mem_singleton.1 h]; rfl
  have hrz : ∀ r ∈ cr (e.senses.map Sns.enc), r.length = 2 := fun r hr => by obtain ⟨x, hx, rfl⟩ := List.mem_map.1 hr; rw [List.length_map]; exact hz x hx
  have hcl : (cr (e.senses.map Sns.enc)).length = e.senses.length := by rw [cr_len, hys]
  have hle0 : e.senses.length + 1 ≤ (e.senses.map Sns.enc ++ [s.enc]).length := by rw [List.length_append, hys]; exact Nat.le_refl _
  have htk : (e.senses.map Sns.enc ++ [s.enc]).take (e.senses.length + 1) = e.senses.map Sns.enc ++ [s.enc] := List.take_of_length_le (by rw [List.length_append, hys]; exact Nat.le_refl _)
  have hmm : (e.senses ++ [s]).map Sns.enc = e.senses.map Sns.enc ++ [s.enc] := by simp
  (repeat' apply And.intro) <;>
    (refine CallC.eff [] (cloneS_E (e.senses.map Sns.enc) hz (by omega)) rfl (DLeL.of_eq (by simp (decide := true) only [go_sem, reduceIte, reduceCtorEq, jA, jB, jC, jD, jE, jF])) (fun k r h => by cases h) (by constructor <;> simp) ?_
     rintro r H' ⟨j, rfl, rfl⟩
     simp (decide := true) only [go_sem, reduceIte, reduceCtorEq, jA, jB, jC, jD, jE, jF, callMemAft, Sns.row]
     refine StepC.mk (Step.appendList (n := 22) (rows := cr (e.senses.map Sns.enc)) (ys := [s.row]) (j := j) (sz := 2) (by_ := 32) rfl rfl (by simp (decide := true) only [go_sem, reduceIte, reduceCtorEq, jA, jB, jC, jD, jE, jF]) (by simp (decide := true) only [go_sem, reduceIte, reduceCtorEq, jA, jB, jC, jD, jE, jF, cr_len]) (by simp (decide := true) only [go_sem, reduceIte, reduceCtorEq, jA, jB, jC, jD, jE, jF, callMemAft]) hrz (by simp (decide := true) only [go_sem, reduceIte, reduceCtorEq, jA, jB, jC, jD, jE, jF]; exact Src.ex _) (by rw [hcl]; simp; omega) ?_)
     intro j'
     simp (decide := true) only [go_sem, reduceIte, reduceCtorEq, jA, jB, jC, jD, jE, jF, callMemAft, Sns.row, hcl]
     refine dw_frz 25 2 (e.senses.map Sns.enc ++ [s.enc]) (anyRows j' 2) (by decide) (by simp (decide := true) only [go_sem, reduceIte, reduceCtorEq, jA, jB, jC, jD, jE, jF, callMemAft]; simp [cr, Sns.enc]) hfz ?_
     (repeat' (first | refine kA ?_ | refine kB ?_ | ((first | (refine kC (N := 28) rfl (by kernel_rfl) ?_) | (apply kJ (id := 6) (N := 28) BAD [(0, .light), (1, .light), (2, .fresh), (3, .light), (4, .light), (5, .step), (6, .light), (7, .step)]; kernel_rfl; rfl; kernel_rfl; (repeat (first | exact Picks.nil | (apply Picks.cons; rfl)))) | refine kD ?_ | refine kE ?_); simp (decide := true) only [go_sem, reduceIte, reduceCtorEq, jA, jB, jC, jD, jE, jF, callMemAft, hle0, htk]) | (apply kG; (simp (decide := true) only [go_sem, reduceIte, reduceCtorEq, jA, jB, jC, jD, jE, jF, callMemAft, hle0, htk]; rfl); all_goals (intro hcnd; first | (exact absurd hcnd (by decide)) | skip))))
     refine dw_exc 4 (by simp (decide := true) only [go_sem, reduceIte, reduceCtorEq, jA, jB, jC, jD, jE, jF]; rfl) ?_
     refine kF ?_; simp (decide := true) only [go_sem, reduceIte, reduceCtorEq, jA, jB, jC, jD, jE, jF]
     simp [hmm])
end Go.Proofs.YtiaamlaibfpdgaaDoor

namespace Go.Proofs.YtiaamlaibfpdgaaDoor
abbrev kpm16 : List (Nat × Go.Dl.Mode) := [(0, .light), (1, .light), (2, .light), (3, .light), (4, .light), (5, .light)]
abbrev kpm17 : List (Nat × Go.Dl.Mode) := [(0, .light), (1, .light), (2, .light), (3, .light), (4, .light), (5, .light), (6, .light), (7, .light), (8, .light), (9, .light), (10, .light), (11, .light), (12, .light), (13, .light), (14, .light), (15, .light)]
end Go.Proofs.YtiaamlaibfpdgaaDoor
/- References tgt places: looked for; a place for one more. -/
namespace Go.Proofs.YtiaamlaibfpdgaaDoor
open Go.Dl
open Go.Dl renaming dw_seq → kA, dw_block → kB, dw_reg → kC, dw_skip → kD, dw_exit → kE, dw_ret → kF, dw_cond → kG, guardC_f → kH, guardC_t → kI, dw_drw → kJ, dw_weaken → kK, sub_kn → kL, sub_ml → kM
open Go.Dl.CallC renaming mk → kN, light → kO
open Go.Dl.LeL renaming of_eq → kP
attribute [local irreducible] DW DCalls ECalls wk IW

set_option maxRecDepth 10000 in

set_option maxHeartbeats 2000000 in
theorem idxR_D (l : List Lnk) (x : Lnk) (hl : l.length ≤ maxLen) : DCalls Tryd.prog 62 [dv (.sl 2 (l.map Lnk.enc)), .agg x.row] (dv (li (idxF (fun y => decide (x = y)) l))) := by
  refine dcalls (N := 19) (rs := [.tmp 4]) (by kernel_rfl) Tryd.func62 rfl rfl rfl (by simp) ?_
  (repeat (first | refine kA ?_ | refine kB ?_ | ((first | (refine kC (N := 19) rfl (by kernel_rfl) ?_) | (apply kJ (id := 4) (N := 19) kpm16; kernel_rfl; rfl; kernel_rfl; (repeat (first | exact Picks.nil | (apply Picks.cons; rfl)))) | refine kD ?_ | refine kE ?_); simp (decide := true) only [go_sem, reduceIte, reduceCtorEq, jA, jB, jC, jD, jE, jF, Lnk.row])))
  refine dw_rngI l (fun k => kn 19 [(0, dv (.sl 2 (l.map Lnk.enc))), (3, .one (.bx 3 2 0 0)), (7, dv (li l.length)), (8, dv (li k))] (ml [(3, [x.row])])) (fun k => ∀ y ∈ l.take k, decide (x = y) = false) hl (kM rfl (by simp (decide := true) only [go_sem, reduceIte, reduceCtorEq, jA, jB, jC, jD, jE, jF]) (by simp (decide := true) only [go_sem, reduceIte, reduceCtorEq, jA, jB, jC, jD, jE, jF] <;> rfl)) (by simp) ?_ ?_
  · intro k y hy hk hm htk hlt hw hi
    have he := lnk_eq x y
    (repeat' (first | refine kA ?_ | refine kB ?_ | ((first | (refine kC (N := 19) rfl (by kernel_rfl) ?_) | (apply kJ (id := 4) (N := 19) kpm16; kernel_rfl; rfl; kernel_rfl; (repeat (first | exact Picks.nil | (apply Picks.cons; rfl)))) | refine kD ?_ | refine kE ?_ | refine kF ?_); simp (decide := true) only [go_sem, reduceIte, reduceCtorEq, jA, jB, jC, jD, jE, jF, hlt, hw, hy, he, Lnk.enc, Lnk.row]) | (apply kG; (simp (decide := true) only [go_sem, reduceIte, reduceCtorEq, jA, jB, jC, jD, jE, jF, hlt, hw, hy, he, Lnk.enc, Lnk.row]; rfl); all_goals (intro hcnd; first | (exact absurd hcnd (by decide)) | skip))))
    · rw [idxF_at hy hi hcnd]
    · exact ⟨forall_snoc htk hi hcnd, kM rfl (by simp (decide := true) only [go_sem, reduceIte, reduceCtorEq, jA, jB, jC, jD, jE, jF]) (by simp (decide := true) only [go_sem, reduceIte, reduceCtorEq, jA, jB, jC, jD, jE, jF, Lnk.row])⟩
  · intro hlt hi
    rw [List.take_length] at hi
    (repeat' (first | refine kA ?_ | refine kB ?_ | ((first | (refine kC (N := 19) rfl (by kernel_rfl) ?_) | (apply kJ (id := 4) (N := 19) kpm16; kernel_rfl; rfl; kernel_rfl; (repeat (first | exact Picks.nil | (apply Picks.cons; rfl)))) | refine kD ?_ | refine kE ?_ | refine kF ?_); simp (decide := true) only [go_sem, reduceIte, reduceCtorEq, jA, jB, jC, jD, jE, jF, hlt]) | (apply kG; (simp (decide := true) only [go_sem, reduceIte, reduceCtorEq, jA, jB, jC, jD, jE, jF, hlt]; rfl); all_goals (intro hcnd; first | (exact absurd hcnd (by decide)) | skip))))
    rw [idxF_no hi]

def hasR (l : List Lnk) (x : Lnk) : Bool := l.any fun y => decide (x = y)

set_option maxRecDepth 10000 in

theorem conR_D (l : List Lnk) (x : Lnk) (hl : l.length ≤ maxLen) : DCalls Tryd.prog 59 [dv (.sl 2 (l.map Lnk.enc)), .agg x.row] (dv (lb (hasR l x))) := by
  have h := idxR_D l x hl
  have h2 := idxF_any (fun y => decide (x = y)) l
  simp only [Lnk.row] at h
  refine dcalls (N := 9) (rs := [.tmp 4]) (by kernel_rfl) Tryd.func59 rfl rfl rfl (by simp) ?_
  (repeat' (first | refine kA ?_ | refine kB ?_ | ((first | (refine kC (N := 9) rfl (by kernel_rfl) ?_) | refine kD ?_ | refine kE ?_ | (refine kN (h) (kP rfl) ?_) | (refine kO (h) (kP rfl) ?_) | refine kF ?_); simp (decide := true) only [go_sem, reduceIte, reduceCtorEq, jA, jB, jC, jD, jE, jF, h2, Lnk.row]) | (apply kG; (simp (decide := true) only [go_sem, reduceIte, reduceCtorEq, jA, jB, jC, jD, jE, jF, h2, Lnk.row]; rfl); all_goals (intro hcnd; first | (exact absurd hcnd (by decide)) | skip))))
  rfl

def bsF (l : List Lnk) (x : Lnk) : Nat → Nat → Nat → Nat
  | 0, i, _ => i
  | n + 1, i, j => if i < j then (match l[(i + j) / 2]? with
    | some q => if lessL q x = true then bsF l x n ((i + j) / 2 + 1) j else bsF l x n i ((i + j) / 2)
    | none => i) else i
def lowB (l : List Lnk) (x : Lnk) : Nat := bsF l x l.length 0 l.length

theorem half_facts (i j : Nat) (h : i + j ≤ 20000000) : IntKind.i64.wrap ((i : Int) + (j : Int)) = ((i + j : Nat) : Int) ∧ IntKind.u64.wrap ((i + j : Nat) : Int) = ((i + j : Nat) : Int) ∧
    (((i + j : Nat) : Int).fdiv 2) = (((i + j) / 2 : Nat) : Int) ∧ IntKind.i64.wrap (((i + j) / 2 : Nat) : Int) = (((i + j) / 2 : Nat) : Int) := by
  refine ⟨by rw [wrap_i64 (by omega) (by omega)]; omega, ?_, ?_, by rw [wrap_i64 (by omega) (by omega)]⟩
  · rw [IntKind.wrap_u64]; omega
  · rw [Int.fdiv_eq_ediv_of_nonneg _ (by omega)]; omega

set_option maxRecDepth 10000 in

set_option maxHeartbeats 4000000 in
theorem bs_D (l : List Lnk) (x : Lnk) (hl : l.length ≤ 2000000) : DCalls Tryd.prog 84 [dv (.sl 2 (l.map Lnk.enc)), .agg x.row, dv (.fn 61 [])] (.tup [dv (li (lowB l x)), .any]) := by
  have hmax : maxLen = 9223372036854775807 := rfl
  refine dcalls (N := 49) (rs := [.tmp 6, .tmp 7]) (by kernel_rfl) Tryd.func84 rfl rfl rfl (by simp) ?_
  (repeat (first | refine kA ?_ | refine kB ?_ | ((first | (refine kC (N := 49) rfl (by kernel_rfl) ?_) | (apply kJ (id := 5) (N := 49) kpm6; kernel_rfl; rfl; kernel_rfl; (repeat (first | exact Picks.nil | (apply Picks.cons; rfl)))) | (apply kJ (id := 8) (N := 49) kpm17; kernel_rfl; rfl; kernel_rfl; (repeat (first | exact Picks.nil | (apply Picks.cons; rfl)))) | refine kD ?_ | refine kE ?_); simp (decide := true) only [go_sem, reduceIte, reduceCtorEq, jA, jB, jC, jD, jE, jF, Lnk.row])))
  refine dw_loop_fam (fun y : Nat × Nat => kn 49 [(0, dv (.sl 2 (l.map Lnk.enc))), (2, dv (.fn 61 [])), (4, .one (.bx 4 2 0 0)), (8, dv (li l.length)), (9, dv (li y.1)), (10, dv (li y.2))] (ml [(4, [x.row])]))
    (fun y => y.1 ≤ y.2 ∧ y.2 ≤ l.length ∧ ∃ n, y.2 - y.1 ≤ n ∧ bsF l x n y.1 y.2 = lowB l x) (fun y => y.2 - y.1) (0, l.length) (kM rfl (by simp (decide := true) only [go_sem, reduceIte, reduceCtorEq, jA, jB, jC, jD, jE, jF]) (by simp (decide := true) only [go_sem, reduceIte, reduceCtorEq, jA, jB, jC, jD, jE, jF, Lnk.row])) ⟨by omega, by omega, l.length, by simp, rfl⟩ ?_
  rintro ⟨i, j⟩ ⟨h1, h2, n, h3, h4⟩
  simp only at h1 h2 h3 h4
  obtain ⟨w1, w2, w3, w4⟩ := half_facts i j (by omega)
  rcases Nat.lt_or_ge i j with hlt | hge
  · have hd : decide ((i : Int) < (j : Int)) = true := by simpa using hlt
    have hhl : (i + j) / 2 < l.length := by omega
    obtain ⟨q, hq⟩ : ∃ q, l[(i + j) / 2]? = some q := ⟨_, List.getElem?_eq_getElem hhl⟩
    have hw := wrap_succ ((i + j) / 2) (by omega)
    have hO := order_D q x
    have hn := ord_neg q x
    simp only [Lnk.row] at hO
    obtain ⟨n', hn'⟩ : ∃ n', n = n' + 1 := ⟨n - 1, by omega⟩
    subst hn'
    rw [bsF, if_pos hlt, hq] at h4
    simp only at h4
    cases t1 : lessL q x
    · rw [t1] at h4 hn
      rw [if_neg (by decide)] at h4
      (repeat' (first | refine kA ?_ | refine kB ?_ | ((first | (refine kC (N := 49) rfl (by kernel_rfl) ?_) | (apply kJ (id := 5) (N := 49) kpm6; kernel_rfl; rfl; kernel_rfl; (repeat (first | exact Picks.nil | (apply Picks.cons; rfl)))) | (apply kJ (id := 8) (N := 49) kpm17; kernel_rfl; rfl; kernel_rfl; (repeat (first | exact Picks.nil | (apply Picks.cons; rfl)))) | refine kD ?_ | refine kE ?_ | (refine kN (hO) (kP rfl) ?_) | (refine kO (hO) (kP rfl) ?_)); simp (decide := true) only [go_sem, reduceIte, reduceCtorEq, jA, jB, jC, jD, jE, jF, hd, w1, w2, w3, w4, hw, hq, hn, Int.toNat_natCast, Lnk.row, Lnk.enc]) | (apply kG; (simp (decide := true) only [go_sem, reduceIte, reduceCtorEq, jA, jB, jC, jD, jE, jF, hd, w1, w2, w3, w4, hw, hq, hn, Int.toNat_natCast, Lnk.row, Lnk.enc]; rfl); all_goals (intro hcnd; first | (exact absurd hcnd (by decide)) | skip)) | ((first | refine kH ?_ ?_ | refine kI ?_ ?_) <;> (intro hcnd; simp (decide := true) only [go_sem, reduceIte, reduceCtorEq, jA, jB, jC, jD, jE, jF, hcnd, hd, w1, w2, w3, w4, hw, hq, hn, Int.toNat_natCast, Lnk.row, Lnk.enc]))))
      exact ⟨(i, (i + j) / 2), ⟨by simp only; omega, by simp only; omega, n', by simp only; omega, h4⟩, by simp only; omega, kM rfl (by simp (decide := true) only [go_sem, reduceIte, reduceCtorEq, jA, jB, jC, jD, jE, jF]) (by simp (decide := true) only [go_sem, reduceIte, reduceCtorEq, jA, jB, jC, jD, jE, jF, Lnk.row])⟩
    · rw [t1] at h4 hn
      rw [if_pos rfl] at h4
      (repeat' (first | refine kA ?_ | refine kB ?_ | ((first | (refine kC (N := 49) rfl (by kernel_rfl) ?_) | (apply kJ (id := 5) (N := 49) kpm6; kernel_rfl; rfl; kernel_rfl; (repeat (first | exact Picks.nil | (apply Picks.cons; rfl)))) | (apply kJ (id := 8) (N := 49) kpm17; kernel_rfl; rfl; kernel_rfl; (repeat (first | exact Picks.nil | (apply Picks.cons; rfl)))) | refine kD ?_ | refine kE ?_ | (refine kN (hO) (kP rfl) ?_) | (refine kO (hO) (kP rfl) ?_)); simp (decide := true) only [go_sem, reduceIte, reduceCtorEq, jA, jB, jC, jD, jE, jF, hd, w1, w2, w3, w4, hw, hq, hn, Int.toNat_natCast, Lnk.row, Lnk.enc]) | (apply kG; (simp (decide := true) only [go_sem, reduceIte, reduceCtorEq, jA, jB, jC, jD, jE, jF, hd, w1, w2, w3, w4, hw, hq, hn, Int.toNat_natCast, Lnk.row, Lnk.enc]; rfl); all_goals (intro hcnd; first | (exact absurd hcnd (by decide)) | skip)) | ((first | refine kH ?_ ?_ | refine kI ?_ ?_) <;> (intro hcnd; simp (decide := true) only [go_sem, reduceIte, reduceCtorEq, jA, jB, jC, jD, jE, jF, hcnd, hd, w1, w2, w3, w4, hw, hq, hn, Int.toNat_natCast, Lnk.row, Lnk.enc]))))
      exact ⟨((i + j) / 2 + 1, j), ⟨by simp only; omega, by simp only; omega, n', by simp only; omega, h4⟩, by simp only; omega, kM rfl (by simp (decide := true) only [go_sem, reduceIte, reduceCtorEq, jA, jB, jC, jD, jE, jF]) (by simp (decide := true) only [go_sem, reduceIte, reduceCtorEq, jA, jB, jC, jD, jE, jF, Lnk.row])⟩
  · have hij : i = j := by omega
    subst hij
    have hd : decide ((i : Int) < (i : Int)) = false := by simp
    have hr : lowB l x = i := by rw [← h4]; cases n <;> simp [bsF]
    rcases Nat.lt_or_ge i l.length with hlt | hge
    · have hd2 : decide ((i : Int) < (l.length : Int)) = true := by simpa using hlt
      obtain ⟨q, hq⟩ : ∃ q, l[i]? = some q := ⟨_, List.getElem?_eq_getElem hlt⟩
      have hO := order_D q x
      simp only [Lnk.row] at hO
      (repeat' (first | refine kA ?_ | refine kB ?_ | ((first | (refine kC (N := 49) rfl (by kernel_rfl) ?_) | (apply kJ (id := 5) (N := 49) kpm6; kernel_rfl; rfl; kernel_rfl; (repeat (first | exact Picks.nil | (apply Picks.cons; rfl)))) | (apply kJ (id := 8) (N := 49) kpm17; kernel_rfl; rfl; kernel_rfl; (repeat (first | exact Picks.nil | (apply Picks.cons; rfl)))) | refine kD ?_ | refine kE ?_ | (refine kN (hO) (kP rfl) ?_) | (refine kO (hO) (kP rfl) ?_)); simp (decide := true) only [go_sem, reduceIte, reduceCtorEq, jA, jB, jC, jD, jE, jF, hd, hd2, hq, Int.toNat_natCast, Lnk.row, Lnk.enc]) | (apply kG; (simp (decide := true) only [go_sem, reduceIte, reduceCtorEq, jA, jB, jC, jD, jE, jF, hd, hd2, hq, Int.toNat_natCast, Lnk.row, Lnk.enc]; rfl); all_goals (intro hcnd; first | (exact absurd hcnd (by decide)) | skip)) | ((first | refine kH ?_ ?_ | refine kI ?_ ?_) <;> (intro hcnd; simp (decide := true) only [go_sem, reduceIte, reduceCtorEq, jA, jB, jC, jD, jE, jF, hcnd, hd, hd2, hq, Int.toNat_natCast, Lnk.row, Lnk.enc]))))
      refine dw_slot 7 .any (DLe.any_ _) ?_
      refine kF ?_; simp (decide := true) only [go_sem, reduceIte, reduceCtorEq, jA, jB, jC, jD, jE, jF]
      rw [hr]
    · have hd2 : decide ((i : Int) < (l.length : Int)) = false := by simpa using hge
      (repeat' (first | refine kA ?_ | refine kB ?_ | ((first | (refine kC (N := 49) rfl (by kernel_rfl) ?_) | (apply kJ (id := 5) (N := 49) kpm6; kernel_rfl; rfl; kernel_rfl; (repeat (first | exact Picks.nil | (apply Picks.cons; rfl)))) | (apply kJ (id := 8) (N := 49) kpm17; kernel_rfl; rfl; kernel_rfl; (repeat (first | exact Picks.nil | (apply Picks.cons; rfl)))) | refine kD ?_ | refine kE ?_); simp (decide := true) only [go_sem, reduceIte, reduceCtorEq, jA, jB, jC, jD, jE, jF, hd, hd2, Lnk.row]) | (apply kG; (simp (decide := true) only [go_sem, reduceIte, reduceCtorEq, jA, jB, jC, jD, jE, jF, hd, hd2, Lnk.row]; rfl); all_goals (intro hcnd; first | (exact absurd hcnd (by decide)) | skip)) | ((first | refine kH ?_ ?_ | refine kI ?_ ?_) <;> (intro hcnd; simp (decide := true) only [go_sem, reduceIte, reduceCtorEq, jA, jB, jC, jD, jE, jF, hcnd, hd, hd2, Lnk.row]))))
      refine dw_slot 7 .any (DLe.any_ _) ?_
      refine kF ?_; simp (decide := true) only [go_sem, reduceIte, reduceCtorEq, jA, jB, jC, jD, jE, jF]
      rw [hr]
end Go.Proofs.YtiaamlaibfpdgaaDoor

/- References tgt places: one more, in order. -/
namespace Go.Proofs.YtiaamlaibfpdgaaDoor
open Go.Dl
open Go.Dl renaming dw_seq → kA, dw_block → kB, dw_reg → kC, dw_skip → kD, dw_exit → kE, dw_ret → kF, dw_cond → kG, guardC_f → kH, guardC_t → kI, dw_drw → kJ, dw_weaken → kK, sub_kn → kL, sub_ml → kM
open Go.Dl.CallC renaming mk → kN, light → kO
open Go.Dl.LeL renaming of_eq → kP
attribute [local irreducible] DW DCalls ECalls wk IW

def putAt (l : List Lnk) (x : Lnk) (i : Nat) : List Lnk := l.take i ++ x :: l.drop i
theorem putAt_enc (xs : List Lnk) (c : Lnk) (i : Nat) : (putAt xs c i).map Lnk.enc = (xs.map Lnk.enc).take i ++ Lnk.enc c :: (xs.map Lnk.enc).drop i := by simp [putAt, List.map_take, List.map_drop]
theorem bsF_le (l : List Lnk) (x : Lnk) : ∀ n i j, i ≤ j → j ≤ l.length → bsF l x n i j ≤ l.length
  | 0, i, j, h1, h2 => by simp only [bsF]; omega
  | n + 1, i, j, h1, h2 => by
    unfold bsF
    split
    · split
      · split
        · exact bsF_le l x n _ _ (by omega) h2
        · exact bsF_le l x n _ _ (by omega) (by omega)
      · omega
    · omega
theorem lowB_le (l : List Lnk) (x : Lnk) : lowB l x ≤ l.length := bsF_le l x _ _ _ (Nat.zero_le _) (Nat.le_refl _)
def withB (l : List Lnk) (x : Lnk) : List Lnk := putAt l x (lowB l x)

set_option maxRecDepth 10000 in

set_option maxHeartbeats 4000000 in
theorem insert_D (xs : List Lnk) (c : Lnk) (hl : xs.length ≤ 1048576) : DCalls Tryd.prog 60 [dv (.sl 2 (xs.map Lnk.enc)), .agg c.row, dv (.fn 61 [])] (dv (.sl 2 ((withB xs c).map Lnk.enc))) := by
  have hmax : maxLen = 9223372036854775807 := rfl
  have hNB := NB_big
  have hbs := bs_D xs c (by omega)
  simp only [Lnk.row] at hbs
  obtain ⟨k, hk⟩ : ∃ k, lowB xs c = k := ⟨_, rfl⟩
  have hk1 : k ≤ xs.length := by rw [← hk]; exact lowB_le xs c
  rw [hk] at hbs
  rw [withB, hk, putAt_enc]
  obtain ⟨ys, hys⟩ : ∃ ys, ys = xs.map Lnk.enc := ⟨_, rfl⟩
  have hyl : ys.length = xs.length := by rw [hys]; simp
  have hz : ∀ r ∈ ys, r.length = 2 := by rw [hys]; exact fun r hr => by obtain ⟨x, _, rfl⟩ := List.mem_map.1 hr; rfl
  have hvl : (Lnk.enc c).length = 2 := rfl
  rw [← hys] at hbs ⊢
  refine dcalls (N := 22) (rs := [.tmp 6]) (by kernel_rfl) Tryd.func60 rfl rfl rfl (by simp) ?_
  (repeat' (first | refine kA ?_ | refine kB ?_ | ((first | (refine kC (N := 22) rfl (by kernel_rfl) ?_) | (apply kJ (id := 2) (N := 22) BAD [(0, .light), (1, .fresh), (2, .light), (3, .light), (4, .light), (5, .step), (6, .light)]; kernel_rfl; rfl; kernel_rfl; (repeat (first | exact Picks.nil | (apply Picks.cons; rfl)))) | refine kD ?_ | refine kE ?_ | (refine kN (hbs) (kP rfl) ?_) | (refine kO (hbs) (kP rfl) ?_)); simp (decide := true) only [go_sem, reduceIte, reduceCtorEq, jA, jB, jC, jD, jE, jF, Lnk.row]) | (apply kG; (simp (decide := true) only [go_sem, reduceIte, reduceCtorEq, jA, jB, jC, jD, jE, jF, Lnk.row]; rfl); all_goals (intro hcnd; first | (exact absurd hcnd (by decide)) | skip))))
  apply dw_tree (id := 2) (N := 22) [0, 2] [4] (.two 1 (.run [3, 4, 5, 6] .leaf) 3 (.two 1 (.run [4, 5, 6] .leaf) 4 (.run [1, 5, 6] .leaf)))
  kernel_rfl
  rfl
  kernel_rfl
  have hfz : ∀ r ∈ ys.take k ++ Lnk.enc c :: ys.drop k, r.length = 2 := fun r hr => by
    simp only [List.mem_append, List.mem_cons] at hr
    rcases hr with h | rfl | h
    · exact hz r (List.mem_of_mem_take h)
    · rfl
    · exact hz r (List.mem_of_mem_drop h)
  have hfl : (ys.take k ++ Lnk.enc c :: ys.drop k).length = ys.length + 1 := by simp; omega
  have hle0 : ys.length + 1 ≤ (ys.take k ++ Lnk.enc c :: ys.drop k).length := by omega
  have htk : (ys.take k ++ Lnk.enc c :: ys.drop k).take (ys.length + 1) = ys.take k ++ Lnk.enc c :: ys.drop k := by rw [← hfl, List.take_length]
  simp (decide := true) only [go_sem, reduceIte, reduceCtorEq, jA, jB, jC, jD, jE, jF, Lnk.row]
  refine ⟨?_, ?_, ?_⟩
  · refine CallC.eff [] (cloneR_E ys hz (by omega)) rfl (DLeL.of_eq (by simp (decide := true) only [go_sem, reduceIte, reduceCtorEq, jA, jB, jC, jD, jE, jF])) (fun k r h => by cases h) (by constructor <;> simp) ?_
    rintro r H' ⟨j, rfl, rfl⟩
    simp (decide := true) only [go_sem, reduceIte, reduceCtorEq, jA, jB, jC, jD, jE, jF, callMemAft, Lnk.row]
    refine StepC.mk (Step.buildOne (sz := 2) (by_ := 16) (ns := c.row) rfl rfl (by simp (decide := true) only [go_sem, reduceIte, reduceCtorEq, jA, jB, jC, jD, jE, jF]) (by decide) (by simp (decide := true) only [go_sem, reduceIte, reduceCtorEq, jA, jB, jC, jD, jE, jF, Lnk.row]) rfl ?_)
    simp (decide := true) only [go_sem, reduceIte, reduceCtorEq, jA, jB, jC, jD, jE, jF, callMemAft, Lnk.row]
    refine CallC.sub (sub_mv 17 1000 (by decide)) rfl ?_
    simp (decide := true) only [go_sem, reduceIte, reduceCtorEq, jA, jB, jC, jD, jE, jF]
    refine CallC.eff [20] (insR_E 20 ys j (Lnk.enc c) hz hvl k (by omega) (by omega)) rfl (DLeL.of_eq (by simp (decide := true) only [go_sem, reduceIte, reduceCtorEq, jA, jB, jC, jD, jE, jF])) (listMem_call (by decide) (by simp (decide := true) only [go_sem, reduceIte, reduceCtorEq, jA, jB, jC, jD, jE, jF, callMemAft]) (by simp (decide := true) only [go_sem, reduceIte, reduceCtorEq, jA, jB, jC, jD, jE, jF, Lnk.row] <;> rfl)) (by constructor <;> simp [mid]) ?_
    rintro r H' ⟨j', rfl, rfl⟩
    simp (decide := true) only [go_sem, reduceIte, reduceCtorEq, jA, jB, jC, jD, jE, jF]
    refine dw_frz 1000 2 (ys.take k ++ Lnk.enc c :: ys.drop k) (anyRows j' 2) (by decide) (by simp (decide := true) only [go_sem, reduceIte, reduceCtorEq, jA, jB, jC, jD, jE, jF, callMemAft]; rfl) hfz ?_
    refine kF ?_; simp (decide := true) only [go_sem, reduceIte, reduceCtorEq, jA, jB, jC, jD, jE, jF, hle0, htk]
  · refine CallC.eff [] (cloneR_E ys hz (by omega)) rfl (DLeL.of_eq (by simp (decide := true) only [go_sem, reduceIte, reduceCtorEq, jA, jB, jC, jD, jE, jF])) (fun k r h => by cases h) (by constructor <;> simp) ?_
    rintro r H' ⟨j, rfl, rfl⟩
    simp (decide := true) only [go_sem, reduceIte, reduceCtorEq, jA, jB, jC, jD, jE, jF, callMemAft, Lnk.row]
    refine StepC.mk (Step.buildOne (sz := 2) (by_ := 16) (ns := c.row) rfl rfl (by simp (decide := true) only [go_sem, reduceIte, reduceCtorEq, jA, jB, jC, jD, jE, jF]) (by decide) (by simp (decide := true) only [go_sem, reduceIte, reduceCtorEq, jA, jB, jC, jD, jE, jF, Lnk.row]) rfl ?_)
    simp (decide := true) only [go_sem, reduceIte, reduceCtorEq, jA, jB, jC, jD, jE, jF, callMemAft, Lnk.row]
    refine CallC.sub (sub_mv 17 1000 (by decide)) rfl ?_
    simp (decide := true) only [go_sem, reduceIte, reduceCtorEq, jA, jB, jC, jD, jE, jF]
    refine CallC.eff [20] (insR_E 20 ys j (Lnk.enc c) hz hvl k (by omega) (by omega)) rfl (DLeL.of_eq (by simp (decide := true) only [go_sem, reduceIte, reduceCtorEq, jA, jB, jC, jD, jE, jF])) (listMem_call (by decide) (by simp (decide := true) only [go_sem, reduceIte, reduceCtorEq, jA, jB, jC, jD, jE, jF, callMemAft]) (by simp (decide := true) only [go_sem, reduceIte, reduceCtorEq, jA, jB, jC, jD, jE, jF, Lnk.row] <;> rfl)) (by constructor <;> simp [mid]) ?_
    rintro r H' ⟨j', rfl, rfl⟩
    simp (decide := true) only [go_sem, reduceIte, reduceCtorEq, jA, jB, jC, jD, jE, jF]
    refine dw_frz 1000 2 (ys.take k ++ Lnk.enc c :: ys.drop k) (anyRows j' 2) (by decide) (by simp (decide := true) only [go_sem, reduceIte, reduceCtorEq, jA, jB, jC, jD, jE, jF, callMemAft]; rfl) hfz ?_
    refine kF ?_; simp (decide := true) only [go_sem, reduceIte, reduceCtorEq, jA, jB, jC, jD, jE, jF, hle0, htk]
  · refine StepC.mk (Step.buildOne (sz := 2) (by_ := 16) (ns := c.row) rfl rfl (by simp (decide := true) only [go_sem, reduceIte, reduceCtorEq, jA, jB, jC, jD, jE, jF]) (by decide) (by simp (decide := true) only [go_sem, reduceIte, reduceCtorEq, jA, jB, jC, jD, jE, jF, Lnk.row]) rfl ?_)
    simp (decide := true) only [go_sem, reduceIte, reduceCtorEq, jA, jB, jC, jD, jE, jF, callMemAft, Lnk.row]
    refine CallC.eff [] (cloneR_E ys hz (by omega)) rfl (DLeL.of_eq (by simp (decide := true) only [go_sem, reduceIte, reduceCtorEq, jA, jB, jC, jD, jE, jF])) (fun k r h => by cases h) (by constructor <;> simp) ?_
    rintro r H' ⟨j, rfl, rfl⟩
    simp (decide := true) only [go_sem, reduceIte, reduceCtorEq, jA, jB, jC, jD, jE, jF, callMemAft, Lnk.row]
    refine CallC.sub (sub_mv 17 1000 (by decide)) rfl ?_
    simp (decide := true) only [go_sem, reduceIte, reduceCtorEq, jA, jB, jC, jD, jE, jF]
    refine CallC.eff [20] (insR_E 20 ys j (Lnk.enc c) hz hvl k (by omega) (by omega)) rfl (DLeL.of_eq (by simp (decide := true) only [go_sem, reduceIte, reduceCtorEq, jA, jB, jC, jD, jE, jF])) (listMem_call (by decide) (by simp (decide := true) only [go_sem, reduceIte, reduceCtorEq, jA, jB, jC, jD, jE, jF, callMemAft]) (by simp (decide := true) only [go_sem, reduceIte, reduceCtorEq, jA, jB, jC, jD, jE, jF, Lnk.row] <;> rfl)) (by constructor <;> simp [mid]) ?_
    rintro r H' ⟨j', rfl, rfl⟩
    simp (decide := true) only [go_sem, reduceIte, reduceCtorEq, jA, jB, jC, jD, jE, jF]
    refine dw_frz 1000 2 (ys.take k ++ Lnk.enc c :: ys.drop k) (anyRows j' 2) (by decide) (by simp (decide := true) only [go_sem, reduceIte, reduceCtorEq, jA, jB, jC, jD, jE, jF, callMemAft]; rfl) hfz ?_
    refine kF ?_; simp (decide := true) only [go_sem, reduceIte, reduceCtorEq, jA, jB, jC, jD, jE, jF, hle0, htk]

def attE (e : Ent) (x : Lnk) : Ent × Int := if okRef x = false then (noEnt, 2) else if hasR e.refs x = true then (e, 0) else if 12 ≤ e.refs.length then (noEnt, 11) else ({ e with refs := withB e.refs x }, 0)

set_option maxRecDepth 10000 in

set_option maxHeartbeats 4000000 in
theorem attest_D (e : Ent) (x : Lnk) (hl : e.refs.length ≤ 1048576) : DCalls Tryd.prog 30 [.agg e.row, .agg x.row] (.tup [.agg (attE e x).1.row, dv (li (attE e x).2)]) := by
  have hmax : maxLen = 9223372036854775807 := rfl
  have hN := named_D x
  have hC := conR_D e.refs x (by omega)
  have hI := insert_D e.refs x hl
  simp only [Lnk.row] at hN hC hI
  refine dcalls (N := 29) (rs := [.cell 4 33, .tmp 5]) (by kernel_rfl) Tryd.func30 rfl rfl rfl (by simp) ?_
  cases t1 : okRef x
  · rw [t1] at hN
    (repeat' (first | refine kA ?_ | refine kB ?_ | ((first | (refine kC (N := 29) rfl (by kernel_rfl) ?_) | refine kD ?_ | refine kE ?_ | (refine kN (hN) (kP rfl) ?_) | (refine kO (hN) (kP rfl) ?_)); simp (decide := true) only [go_sem, reduceIte, reduceCtorEq, jA, jB, jC, jD, jE, jF, Ent.row, Lnk.row]) | (apply kG; (simp (decide := true) only [go_sem, reduceIte, reduceCtorEq, jA, jB, jC, jD, jE, jF, Ent.row, Lnk.row]; rfl); all_goals (intro hcnd; first | (exact absurd hcnd (by decide)) | skip))))
    refine dw_exc 4 (by simp (decide := true) only [go_sem, reduceIte, reduceCtorEq, jA, jB, jC, jD, jE, jF]; rfl) ?_
    refine kF ?_; simp (decide := true) only [go_sem, reduceIte, reduceCtorEq, jA, jB, jC, jD, jE, jF]
    rw [attE, if_pos t1]; simp [Ent.row, noEnt]
  rw [t1] at hN
  have n1 : ¬ okRef x = false := by rw [t1]; decide
  cases t2 : hasR e.refs x
  rotate_left
  · rw [t2] at hC
    (repeat' (first | refine kA ?_ | refine kB ?_ | ((first | (refine kC (N := 29) rfl (by kernel_rfl) ?_) | refine kD ?_ | refine kE ?_ | (refine kN (hN) (kP rfl) ?_) | (refine kO (hN) (kP rfl) ?_) | (refine kN (hC) (kP rfl) ?_) | (refine kO (hC) (kP rfl) ?_) | refine kF ?_); simp (decide := true) only [go_sem, reduceIte, reduceCtorEq, jA, jB, jC, jD, jE, jF, Ent.row, Lnk.row]) | (apply kG; (simp (decide := true) only [go_sem, reduceIte, reduceCtorEq, jA, jB, jC, jD, jE, jF, Ent.row, Lnk.row]; rfl); all_goals (intro hcnd; first | (exact absurd hcnd (by decide)) | skip))))
    rw [attE, if_neg n1, if_pos t2]
  rw [t2] at hC
  have n2 : ¬ hasR e.refs x = true := by rw [t2]; decide
  rcases Bool.eq_false_or_eq_true (decide ((12 : Int) ≤ (e.refs.length : Int))) with t3 | t3
  · have n3 : 12 ≤ e.refs.length := by have := of_decide_eq_true t3; omega
    (repeat' (first | refine kA ?_ | refine kB ?_ | ((first | (refine kC (N := 29) rfl (by kernel_rfl) ?_) | refine kD ?_ | refine kE ?_ | (refine kN (hN) (kP rfl) ?_) | (refine kO (hN) (kP rfl) ?_) | (refine kN (hC) (kP rfl) ?_) | (refine kO (hC) (kP rfl) ?_)); simp (decide := true) only [go_sem, reduceIte, reduceCtorEq, jA, jB, jC, jD, jE, jF, t3, Ent.row, Lnk.row]) | (apply kG; (simp (decide := true) only [go_sem, reduceIte, reduceCtorEq, jA, jB, jC, jD, jE, jF, t3, Ent.row, Lnk.row]; rfl); all_goals (intro hcnd; first | (exact absurd hcnd (by decide)) | skip))))
    refine dw_exc 4 (by simp (decide := true) only [go_sem, reduceIte, reduceCtorEq, jA, jB, jC, jD, jE, jF]; rfl) ?_
    refine kF ?_; simp (decide := true) only [go_sem, reduceIte, reduceCtorEq, jA, jB, jC, jD, jE, jF]
    rw [attE, if_neg n1, if_neg n2, if_pos n3]; simp [Ent.row, noEnt]
  have n3 : ¬ 12 ≤ e.refs.length := by have := of_decide_eq_false t3; omega
  (repeat' (first | refine kA ?_ | refine kB ?_ | ((first | (refine kC (N := 29) rfl (by kernel_rfl) ?_) | refine kD ?_ | refine kE ?_ | (refine kN (hN) (kP rfl) ?_) | (refine kO (hN) (kP rfl) ?_) | (refine kN (hC) (kP rfl) ?_) | (refine kO (hC) (kP rfl) ?_) | (refine kN (hI) (kP rfl) ?_) | (refine kO (hI) (kP rfl) ?_) | refine kF ?_); simp (decide := true) only [go_sem, reduceIte, reduceCtorEq, jA, jB, jC, jD, jE, jF, t3, Ent.row, Lnk.row]) | (apply kG; (simp (decide := true) only [go_sem, reduceIte, reduceCtorEq, jA, jB, jC, jD, jE, jF, t3, Ent.row, Lnk.row]; rfl); all_goals (intro hcnd; first | (exact absurd hcnd (by decide)) | skip))))
  rw [attE, if_neg n1, if_neg n2, if_neg n3]
end Go.Proofs.YtiaamlaibfpdgaaDoor

/- References tgt places: one taken out. -/
namespace Go.Proofs.YtiaamlaibfpdgaaDoor
open Go.Dl
open Go.Dl renaming dw_seq → kA, dw_block → kB, dw_reg → kC, dw_skip → kD, dw_exit → kE, dw_ret → kF, dw_cond → kG, guardC_f → kH, guardC_t → kI, dw_drw → kJ, dw_weaken → kK, sub_kn → kL, sub_ml → kM
open Go.Dl.CallC renaming mk → kN, light → kO
open Go.Dl.LeL renaming of_eq → kP
attribute [local irreducible] DW DCalls ECalls wk IW

set_option maxRecDepth 10000 in

set_option maxHeartbeats 8000000 in
theorem delR_E (ys : List (List Dl.C)) (j a i : Nat) (hz : ∀ r ∈ ys, r.length = 2) (hi : i < ys.length) (hl : ys.length ≤ 1048576) :
    ECalls Tryd.prog 63 [.one (.ba (a + NB) 2 0 ys.length (ys.length + j)), dv (li i), dv (li ((i + 1 : Nat) : Int))] (ml [(a + NB, cr ys ++ anyRows j 2)])
      (fun r H' => ∃ j', r = .one (.ba (a + NB) 2 0 (ys.length - 1) (ys.length + j)) ∧ H' = ml [(a + NB, cr (ys.take i ++ ys.drop (i + 1)) ++ anyRows j' 2)]) := by
  have hmax : maxLen = 9223372036854775807 := rfl
  have h0 : (0 ≤ i) = True := eq_true (Nat.zero_le i)
  have h1 : (i ≤ i + 1) = True := eq_true (Nat.le_succ i)
  have h2 : (i + 1 ≤ ys.length) = True := eq_true (by omega)
  have h3 : (ys.length ≤ ys.length + j) = True := eq_true (by omega)
  have h4 : (i ≤ ys.length + j) = True := eq_true (by omega)
  have h5 : ((i : Int) == ((i + 1 : Nat) : Int)) = false := beq_eq_false_iff_ne.2 (by omega)
  have hrz : ∀ r ∈ cr ys ++ anyRows j 2, r.length = 2 := fun r hr => (List.mem_append.1 hr).elim (fun h => by obtain ⟨x, hx, rfl⟩ := List.mem_map.1 h; rw [List.length_map]; exact hz x hx) (anyRows_sz j 2 r)
  have hcl : (cr ys).length = ys.length := cr_len ys
  refine ecalls (N := 33) (rs := [.tmp 6]) (by kernel_rfl) Tryd.func63 rfl rfl rfl (by simp) ?_
  (repeat' (first | refine kA ?_ | refine kB ?_ | ((first | (refine kC (N := 33) rfl (by kernel_rfl) ?_) | (apply kJ (id := 5) (N := 33) kpm6; kernel_rfl; rfl; kernel_rfl; (repeat (first | exact Picks.nil | (apply Picks.cons; rfl)))) | refine kD ?_ | refine kE ?_); simp (decide := true) only [go_sem, reduceIte, reduceCtorEq, jA, jB, jC, jD, jE, jF, h0, h1, h2, h3, h4, h5, Int.toNat_natCast, Option.isSome_some, Option.bind_some, Nat.add_sub_cancel_left, Nat.zero_add, Nat.sub_zero]) | (apply kG; (simp (decide := true) only [go_sem, reduceIte, reduceCtorEq, jA, jB, jC, jD, jE, jF, h0, h1, h2, h3, h4, h5, Int.toNat_natCast, Option.isSome_some, Option.bind_some, Nat.add_sub_cancel_left, Nat.zero_add, Nat.sub_zero]; rfl); all_goals (intro hcnd; first | (exact absurd hcnd (by decide)) | skip))))
  have hdl : (cr (ys.drop (i + 1))).length = ys.length - (i + 1) := by rw [cr_len, List.length_drop]
  have hcd : cr (ys.drop (i + 1)) = (cr ys).drop (i + 1) := by simp [cr, List.map_drop]
  have hct : cr (ys.take i) = (cr ys).take i := by simp [cr, List.map_take]
  have hsr : cr (ys.drop (i + 1)) = ((cr ys ++ anyRows j 2).drop (i + 1)).take (ys.length - (i + 1)) := by
    rw [List.drop_append_of_le_length (by rw [hcl]; omega), ← hcd, List.take_left' hdl]
  have hrl : (cr ys ++ anyRows j 2).length = ys.length + j := by rw [List.length_append, hcl]; simp [anyRows]
  have hnew : (cr ys ++ anyRows j 2).take (0 + i) ++ (cr (ys.drop (i + 1)) ++ (cr ys ++ anyRows j 2).drop (0 + i + (cr (ys.drop (i + 1))).length)) = cr (ys.take i ++ ys.drop (i + 1)) ++ (cr ys ++ anyRows j 2).drop (ys.length - 1) := by
    rw [hdl, Nat.zero_add, List.take_append_of_le_length (by rw [hcl]; omega), ← hct, ← List.append_assoc, cr_append, show i + (ys.length - (i + 1)) = ys.length - 1 by omega]
  refine StepC.mk (Step.appendRoom (n := a + NB) (sz := 2) (by_ := 16) (i := 0) (len := i) (cap := ys.length + j) (rows := cr ys ++ anyRows j 2) (ys := cr (ys.drop (i + 1))) rfl rfl (by simp (decide := true) only [go_sem, reduceIte, reduceCtorEq, jA, jB, jC, jD, jE, jF]) (by simp (decide := true) only [go_sem, reduceIte, reduceCtorEq, jA, jB, jC, jD, jE, jF]) (by simp (decide := true) only [go_sem, reduceIte, reduceCtorEq, jA, jB, jC, jD, jE, jF]) (by rw [hrl]; omega) hrz
    (srcBa (n := a + NB) (i := i + 1) (len := ys.length - (i + 1)) (cap := ys.length + j - (i + 1)) (rows := cr ys ++ anyRows j 2) (by simp (decide := true) only [go_sem, reduceIte, reduceCtorEq, jA, jB, jC, jD, jE, jF]) (by simp (decide := true) only [go_sem, reduceIte, reduceCtorEq, jA, jB, jC, jD, jE, jF]) (by rw [hrl]; omega) hrz hsr) (by rw [hdl]; omega) ?_)
  rw [hnew, hdl, show i + (ys.length - (i + 1)) = ys.length - 1 by omega]
  have g1 : (ys.length - 1 ≤ ys.length) = True := eq_true (by omega)
  have g2 : (ys.length ≤ ys.length + j) = True := eq_true (by omega)
  have g3 : (ys.length - 1 ≤ ys.length + j) = True := eq_true (by omega)
  simp (decide := true) only [go_sem, reduceIte, reduceCtorEq, jA, jB, jC, jD, jE, jF]
  (repeat' (first | refine kA ?_ | refine kB ?_ | ((first | (refine kC (N := 33) rfl (by kernel_rfl) ?_) | (apply kJ (id := 5) (N := 33) kpm6; kernel_rfl; rfl; kernel_rfl; (repeat (first | exact Picks.nil | (apply Picks.cons; rfl)))) | refine kD ?_ | refine kE ?_); simp (decide := true) only [go_sem, reduceIte, reduceCtorEq, jA, jB, jC, jD, jE, jF, g1, g2, g3, Int.toNat_natCast, Option.isSome_some, Option.bind_some, Nat.zero_add, Nat.sub_zero]) | (apply kG; (simp (decide := true) only [go_sem, reduceIte, reduceCtorEq, jA, jB, jC, jD, jE, jF, g1, g2, g3, Int.toNat_natCast, Option.isSome_some, Option.bind_some, Nat.zero_add, Nat.sub_zero]; rfl); all_goals (intro hcnd; first | (exact absurd hcnd (by decide)) | skip))))
  have hel : (cr (ys.take i ++ ys.drop (i + 1))).length = ys.length - 1 := by rw [cr_len, List.length_append, List.length_take, List.length_drop]; omega
  have hez : ∀ r ∈ cr (ys.take i ++ ys.drop (i + 1)) ++ (cr ys ++ anyRows j 2).drop (ys.length - 1), r.length = 2 := fun r hr => by
    rcases List.mem_append.1 hr with h | h
    · obtain ⟨x, hx, rfl⟩ := List.mem_map.1 h
      rw [List.length_map]
      rcases List.mem_append.1 hx with h' | h'
      · exact hz x (List.mem_of_mem_take h')
      · exact hz x (List.mem_of_mem_drop h')
    · exact hrz r (List.mem_of_mem_drop h)
  have hfin : (cr (ys.take i ++ ys.drop (i + 1)) ++ (cr ys ++ anyRows j 2).drop (ys.length - 1)).take (ys.length - 1) ++ (anyRows (ys.length - (ys.length - 1)) 2 ++ (cr (ys.take i ++ ys.drop (i + 1)) ++ (cr ys ++ anyRows j 2).drop (ys.length - 1)).drop (ys.length - 1 + (ys.length - (ys.length - 1)))) = cr (ys.take i ++ ys.drop (i + 1)) ++ anyRows (1 + j) 2 := by
    generalize cr (ys.take i ++ ys.drop (i + 1)) = E at hel ⊢
    have e1 : ys.length - 1 + (ys.length - (ys.length - 1)) = E.length + 1 := by rw [hel]; omega
    have e2 : (E ++ (cr ys ++ anyRows j 2).drop (ys.length - 1)).drop (E.length + 1) = anyRows j 2 := by
      rw [← List.drop_drop, List.drop_left, List.drop_drop, show ys.length - 1 + 1 = (cr ys).length by rw [hcl]; omega, List.drop_left]
    rw [List.take_left' hel, e1, e2, show ys.length - (ys.length - 1) = 1 by omega]
    congr 1
    simp only [anyRows, List.replicate_append_replicate]
  refine StepC.mk (Step.clear (n := a + NB) (rows := cr (ys.take i ++ ys.drop (i + 1)) ++ (cr ys ++ anyRows j 2).drop (ys.length - 1)) (i := ys.length - 1) (len := ys.length - (ys.length - 1)) (cap := ys.length + j - (ys.length - 1)) (sz := 2) (by_ := 16) rfl (by simp (decide := true) only [go_sem, reduceIte, reduceCtorEq, jA, jB, jC, jD, jE, jF]) (by simp (decide := true) only [go_sem, reduceIte, reduceCtorEq, jA, jB, jC, jD, jE, jF]) (by simp (decide := true) only [go_sem, reduceIte, reduceCtorEq, jA, jB, jC, jD, jE, jF])
    (by rw [List.length_append, hel, List.length_drop, hrl]; omega) hez ?_)
  rw [hfin]
  simp (decide := true) only [go_sem, reduceIte, reduceCtorEq, jA, jB, jC, jD, jE, jF]
  (repeat (first | refine kA ?_ | refine kB ?_ | ((first | (refine kC (N := 33) rfl (by kernel_rfl) ?_) | (apply kJ (id := 5) (N := 33) kpm6; kernel_rfl; rfl; kernel_rfl; (repeat (first | exact Picks.nil | (apply Picks.cons; rfl)))) | refine kD ?_ | refine kE ?_); simp (decide := true) only [go_sem, reduceIte, reduceCtorEq, jA, jB, jC, jD, jE, jF])))
  refine kK (kM (N := 33) (sls := [(6, .one (.ba (a + NB) 2 0 (ys.length - 1) (ys.length + j)))]) (bxs := [(a + NB, cr (ys.take i ++ ys.drop (i + 1)) ++ anyRows (1 + j) 2)]) rfl (by simp (decide := true) only [go_sem, reduceIte, reduceCtorEq, jA, jB, jC, jD, jE, jF]) (by simp (decide := true) only [go_sem, reduceIte, reduceCtorEq, jA, jB, jC, jD, jE, jF])) ?_
  refine kF ?_; simp (decide := true) only [go_sem, reduceIte, reduceCtorEq, jA, jB, jC, jD, jE, jF]
  exact ⟨_, rfl⟩

def forE (e : Ent) (x : Lnk) : Ent × Int := match e.refs.findIdx? (fun y => decide (x = y)) with
  | none => (noEnt, 9)
  | some i => ({ e with refs := e.refs.take i ++ e.refs.drop (i + 1) }, 0)
end Go.Proofs.YtiaamlaibfpdgaaDoor

/- Entries: one reference less. -/
namespace Go.Proofs.YtiaamlaibfpdgaaDoor
open Go.Dl
open Go.Dl renaming dw_seq → kA, dw_block → kB, dw_reg → kC, dw_skip → kD, dw_exit → kE, dw_ret → kF, dw_cond → kG, guardC_f → kH, guardC_t → kI, dw_drw → kJ, dw_weaken → kK, sub_kn → kL, sub_ml → kM
open Go.Dl.CallC renaming mk → kN, light → kO
open Go.Dl.LeL renaming of_eq → kP
attribute [local irreducible] DW DCalls ECalls wk IW

theorem find_ex {α : Type} {l : List α} {q : α → Bool} {x : α} (h : l.find? q = some x) : ∃ k, l[k]? = some x ∧ (∀ y ∈ l.take k, q y = false) ∧ q x = true := by
  obtain ⟨hq, us, vs, hl, hu⟩ := List.find?_eq_some_iff_append.1 h
  refine ⟨us.length, by rw [hl]; simp, fun y hy => ?_, hq⟩
  rw [hl, List.take_left'] at hy
  · simpa using hu y hy
  · rfl
theorem find_nex {α : Type} {l : List α} {q : α → Bool} (h : l.find? q = none) : ∀ y ∈ l, q y = false := by simpa using h

def outE (e : Ent) (i : Int) : Ent × Int := if i < 0 then (noEnt, 9) else ({ e with refs := e.refs.take i.toNat ++ e.refs.drop (i.toNat + 1) }, 0)
def forgE (e : Ent) (x : Lnk) : Ent × Int := outE e (idxF (fun y => decide (x = y)) e.refs)

set_option maxRecDepth 10000 in

set_option maxHeartbeats 4000000 in
theorem forget_D (e : Ent) (x : Lnk) (hl : e.refs.length ≤ 1048576) : DCalls Tryd.prog 31 [.agg e.row, .agg x.row] (.tup [.agg (forgE e x).1.row, dv (li (forgE e x).2)]) := by
  have hmax : maxLen = 9223372036854775807 := rfl
  have hI := idxR_D e.refs x (by omega)
  simp only [Lnk.row] at hI
  have hz : ∀ r ∈ e.refs.map Lnk.enc, r.length = 2 := fun r hr => by obtain ⟨y, _, rfl⟩ := List.mem_map.1 hr; rfl
  have hcl : (e.refs.map Lnk.enc).length = e.refs.length := by simp
  rw [forgE]
  cases hf : e.refs.find? (fun y => decide (x = y)) with
  | none =>
    rw [idxF_no (find_nex hf)] at hI ⊢
    refine dcalls (N := 23) (rs := [.cell 4 33, .tmp 5]) (by kernel_rfl) Tryd.func31 rfl rfl rfl (by simp) ?_
    (repeat' (first | refine kA ?_ | refine kB ?_ | ((first | (refine kC (N := 23) rfl (by kernel_rfl) ?_) | refine kD ?_ | refine kE ?_ | (refine kN (hI) (kP rfl) ?_) | (refine kO (hI) (kP rfl) ?_)); simp (decide := true) only [go_sem, reduceIte, reduceCtorEq, jA, jB, jC, jD, jE, jF, Ent.row, Lnk.row]) | (apply kG; (simp (decide := true) only [go_sem, reduceIte, reduceCtorEq, jA, jB, jC, jD, jE, jF, Ent.row, Lnk.row]; rfl); all_goals (intro hcnd; first | (exact absurd hcnd (by decide)) | skip))))
    refine dw_exc 4 (by simp (decide := true) only [go_sem, reduceIte, reduceCtorEq, jA, jB, jC, jD, jE, jF]; rfl) ?_
    refine kF ?_; simp (decide := true) only [go_sem, reduceIte, reduceCtorEq, jA, jB, jC, jD, jE, jF]
    rw [outE, if_pos (by decide)]; simp [Ent.row, noEnt]
  | some y =>
    obtain ⟨k, hk, hki, hkq⟩ := find_ex hf
    have hkl : k < e.refs.length := (List.getElem?_eq_some_iff.1 hk).1
    rw [idxF_at hk hki hkq] at hI ⊢
    have hn : decide ((k : Int) < 0) = false := by simp
    have hw := wrap_succ k (by omega)
    refine dcalls (N := 23) (rs := [.cell 4 33, .tmp 5]) (by kernel_rfl) Tryd.func31 rfl rfl rfl (by simp) ?_
    (repeat' (first | refine kA ?_ | refine kB ?_ | ((first | (refine kC (N := 23) rfl (by kernel_rfl) ?_) | refine kD ?_ | refine kE ?_ | (refine kN (hI) (kP rfl) ?_) | (refine kO (hI) (kP rfl) ?_)); simp (decide := true) only [go_sem, reduceIte, reduceCtorEq, jA, jB, jC, jD, jE, jF, hn, hw, Ent.row, Lnk.row]) | (apply kG; (simp (decide := true) only [go_sem, reduceIte, reduceCtorEq, jA, jB, jC, jD, jE, jF, hn, hw, Ent.row, Lnk.row]; rfl); all_goals (intro hcnd; first | (exact absurd hcnd (by decide)) | skip))))
    refine CallC.eff [] (cloneR_E (e.refs.map Lnk.enc) hz (by omega)) rfl (DLeL.of_eq (by simp (decide := true) only [go_sem, reduceIte, reduceCtorEq, jA, jB, jC, jD, jE, jF])) (fun k r h => by cases h) (by constructor <;> simp) ?_
    rintro r H' ⟨j, rfl, rfl⟩
    simp (decide := true) only [go_sem, reduceIte, reduceCtorEq, jA, jB, jC, jD, jE, jF, callMemAft, hw, hcl]
    refine CallC.eff [16] (delR_E (e.refs.map Lnk.enc) j 16 k hz (by omega) (by omega)) rfl (DLeL.of_eq (by simp (decide := true) only [go_sem, reduceIte, reduceCtorEq, jA, jB, jC, jD, jE, jF, hcl])) (fun k r h => ?_) (by constructor <;> simp [mid]) ?_
    · by_cases hk : k = 16 + NB
      · subst hk; simp (decide := true) only [go_sem, reduceIte, reduceCtorEq, jA, jB, jC, jD, jE, jF] at h; subst h; simp (decide := true) only [go_sem, reduceIte, reduceCtorEq, jA, jB, jC, jD, jE, jF, callMemAft, callMem]
      · simp (decide := true) only [go_sem, reduceIte, reduceCtorEq, jA, jB, jC, jD, jE, jF, hk] at h
    rintro r H' ⟨j', rfl, rfl⟩
    simp (decide := true) only [go_sem, reduceIte, reduceCtorEq, jA, jB, jC, jD, jE, jF, callMemAft]
    have hel : (e.refs.map Lnk.enc).length - 1 ≤ ((e.refs.map Lnk.enc).take k ++ (e.refs.map Lnk.enc).drop (k + 1)).length := by rw [List.length_append, List.length_take, List.length_drop]; omega
    have htk : ((e.refs.map Lnk.enc).take k ++ (e.refs.map Lnk.enc).drop (k + 1)).take ((e.refs.map Lnk.enc).length - 1) = (e.refs.map Lnk.enc).take k ++ (e.refs.map Lnk.enc).drop (k + 1) := List.take_of_length_le (by rw [List.length_append, List.length_take, List.length_drop]; omega)
    rw [hcl] at hel htk
    (repeat' (first | refine kA ?_ | refine kB ?_ | ((first | (refine kC (N := 23) rfl (by kernel_rfl) ?_) | refine kD ?_ | refine kE ?_); simp (decide := true) only [go_sem, reduceIte, reduceCtorEq, jA, jB, jC, jD, jE, jF, callMemAft]) | (apply kG; (simp (decide := true) only [go_sem, reduceIte, reduceCtorEq, jA, jB, jC, jD, jE, jF, callMemAft]; rfl); all_goals (intro hcnd; first | (exact absurd hcnd (by decide)) | skip))))
    refine dw_frz 16 2 ((e.refs.map Lnk.enc).take k ++ (e.refs.map Lnk.enc).drop (k + 1)) (anyRows j' 2) (by decide) (by simp (decide := true) only [go_sem, reduceIte, reduceCtorEq, jA, jB, jC, jD, jE, jF, callMemAft]; rfl) (fun r hr => (List.mem_append.1 hr).elim (fun h => hz r (List.mem_of_mem_take h)) (fun h => hz r (List.mem_of_mem_drop h))) ?_
    refine dw_exc 4 (by simp (decide := true) only [go_sem, reduceIte, reduceCtorEq, jA, jB, jC, jD, jE, jF, callMemAft, hel, htk]; rfl) ?_
    refine kF ?_; simp (decide := true) only [go_sem, reduceIte, reduceCtorEq, jA, jB, jC, jD, jE, jF, callMemAft, hel, htk]
    rw [outE, if_neg (by omega)]; simp [Ent.row, List.map_take, List.map_drop]
end Go.Proofs.YtiaamlaibfpdgaaDoor

/- Entries: few enough; samples. -/
namespace Go.Proofs.YtiaamlaibfpdgaaDoor
open Go.Dl
open Go.Dl renaming dw_seq → kA, dw_block → kB, dw_reg → kC, dw_skip → kD, dw_exit → kE, dw_ret → kF, dw_cond → kG, guardC_f → kH, guardC_t → kI, dw_drw → kJ, dw_weaken → kK, sub_kn → kL, sub_ml → kM
open Go.Dl.CallC renaming mk → kN, light → kO
open Go.Dl.LeL renaming of_eq → kP
attribute [local irreducible] DW DCalls ECalls wk IW

def twoG : List Phon := [⟨⟨#[112]⟩, 0⟩, ⟨⟨#[97]⟩, 0⟩]
def samE : Ent := ⟨3, [1, 2], 1, [[2]], 0, [⟨⟨#[100, 111, 103]⟩, ⟨#[97, 110, 32, 97, 110, 105, 109, 97, 108]⟩⟩], [], [⟨1, 5⟩]⟩

set_option maxRecDepth 10000 in

theorem two_D : DCalls Tryd.prog 20 [] (.agg (invRow twoG)) := by
  refine dcalls (N := 5) (rs := [.cell 0 26]) (by kernel_rfl) Tryd.func20 rfl rfl rfl (by simp) ?_
  (repeat' (first | refine kA ?_ | refine kB ?_ | ((first | (refine kC (N := 5) rfl (by kernel_rfl) ?_) | refine kD ?_ | refine kE ?_); simp (decide := true) only [go_sem, reduceIte, reduceCtorEq, jA, jB, jC, jD, jE, jF]) | (apply kG; (simp (decide := true) only [go_sem, reduceIte, reduceCtorEq, jA, jB, jC, jD, jE, jF]; rfl); all_goals (intro hcnd; first | (exact absurd hcnd (by decide)) | skip))))
  refine dw_exc 0 (by simp (decide := true) only [go_sem, reduceIte, reduceCtorEq, jA, jB, jC, jD, jE, jF]; rfl) ?_
  refine kF ?_; simp (decide := true) only [go_sem, reduceIte, reduceCtorEq, jA, jB, jC, jD, jE, jF]
  simp [invRow, twoG, Phon.enc]

set_option maxRecDepth 10000 in
theorem sample_D : DCalls Tryd.prog 34 [] (.agg samE.row) := by
  refine dcalls (N := 9) (rs := [.cell 0 33]) (by kernel_rfl) Tryd.func34 rfl rfl rfl (by simp) ?_
  (repeat' (first | refine kA ?_ | refine kB ?_ | ((first | (refine kC (N := 9) rfl (by kernel_rfl) ?_) | refine kD ?_ | refine kE ?_); simp (decide := true) only [go_sem, reduceIte, reduceCtorEq, jA, jB, jC, jD, jE, jF]) | (apply kG; (simp (decide := true) only [go_sem, reduceIte, reduceCtorEq, jA, jB, jC, jD, jE, jF]; rfl); all_goals (intro hcnd; first | (exact absurd hcnd (by decide)) | skip))))
  refine dw_exc 0 (by simp (decide := true) only [go_sem, reduceIte, reduceCtorEq, jA, jB, jC, jD, jE, jF]; rfl) ?_
  refine kF ?_; simp (decide := true) only [go_sem, reduceIte, reduceCtorEq, jA, jB, jC, jD, jE, jF]
  simp [Ent.row, samE, Sns.enc, Lnk.enc]
end Go.Proofs.YtiaamlaibfpdgaaDoor

/- Entries: few enough. -/
namespace Go.Proofs.YtiaamlaibfpdgaaDoor
open Go.Dl
open Go.Dl renaming dw_seq → kA, dw_block → kB, dw_reg → kC, dw_skip → kD, dw_exit → kE, dw_ret → kF, dw_cond → kG, guardC_f → kH, guardC_t → kI, dw_drw → kJ, dw_weaken → kK, sub_kn → kL, sub_ml → kM
open Go.Dl.CallC renaming mk → kN, light → kO
open Go.Dl.LeL renaming of_eq → kP
attribute [local irreducible] DW DCalls ECalls wk IW

def lenE (e : Ent) : Nat := e.form.length + e.alts.length + e.senses.length + e.links.length + e.refs.length
def sumA (l : List (List Int)) : Nat := (l.map List.length).sum
def someB (g : List Phon) (e : Ent) : Bool := decide (lenE e + sumA e.alts ≤ 400) && (decide (g.length ≤ 70) && (checkI g == 0))
theorem sumA_snoc (l : List (List Int)) (a : List Int) : sumA (l ++ [a]) = sumA l + a.length := by simp [sumA]
theorem sumA_take (l : List (List Int)) (k : Nat) : sumA (l.take k) ≤ sumA l := by
  have h : sumA l = sumA (l.take k) + sumA (l.drop k) := by
    rw [sumA, sumA, sumA, ← List.sum_append, ← List.map_append, List.take_append_drop]
  omega

theorem take_snoc_at {α : Type} {l : List α} {k : Nat} {x : α} (h : l[k]? = some x) : l.take (k + 1) = l.take k ++ [x] := by rw [List.take_add_one, h]; rfl

set_option maxRecDepth 10000 in

set_option maxHeartbeats 4000000 in
theorem some_D (g : List Phon) (e : Ent) (he : MidE e) (hg : ∀ p ∈ g, p.name.size ≤ 1048576) : DCalls Tryd.prog 16 [.agg (invRow g), .agg e.row] (dv (lb (someB g e))) := by
  have hmax : maxLen = 9223372036854775807 := rfl
  have hC := rCheckI_D g hg
  simp only [invRow] at hC
  have b1 := he.form
  have b2 := he.alts
  have b3 := he.senses
  have b4 := he.links
  have b5 := he.refs
  have v1 : IntKind.i64.wrap ((e.form.length : Int) + (e.alts.length : Int)) = ((e.form.length + e.alts.length : Nat) : Int) := by rw [wrap_i64 (by omega) (by omega)]; omega
  have v2 : IntKind.i64.wrap (((e.form.length + e.alts.length : Nat) : Int) + (e.senses.length : Int)) = ((e.form.length + e.alts.length + e.senses.length : Nat) : Int) := by rw [wrap_i64 (by omega) (by omega)]; omega
  have v3 : IntKind.i64.wrap (((e.form.length + e.alts.length + e.senses.length : Nat) : Int) + (e.links.length : Int)) = ((e.form.length + e.alts.length + e.senses.length + e.links.length : Nat) : Int) := by rw [wrap_i64 (by omega) (by omega)]; omega
  have v4 : IntKind.i64.wrap (((e.form.length + e.alts.length + e.senses.length + e.links.length : Nat) : Int) + (e.refs.length : Int)) = ((lenE e : Nat) : Int) := by rw [wrap_i64 (by omega) (by omega)]; unfold lenE; omega
  refine dcalls (N := 58) (rs := [.tmp 4]) (by kernel_rfl) Tryd.func16 rfl rfl rfl (by simp) ?_
  (repeat' (first | refine kA ?_ | refine kB ?_ | ((first | (refine kC (N := 58) rfl (by kernel_rfl) ?_) | refine kD ?_ | refine kE ?_); simp (decide := true) only [go_sem, reduceIte, reduceCtorEq, jA, jB, jC, jD, jE, jF, v1, v2, v3, v4, Ent.row, invRow]) | (apply kG; (simp (decide := true) only [go_sem, reduceIte, reduceCtorEq, jA, jB, jC, jD, jE, jF, v1, v2, v3, v4, Ent.row, invRow]; rfl); all_goals (intro hcnd; first | (exact absurd hcnd (by decide)) | skip)) | ((first | refine kH ?_ ?_ | refine kI ?_ ?_) <;> (intro hcnd; simp (decide := true) only [go_sem, reduceIte, reduceCtorEq, jA, jB, jC, jD, jE, jF, hcnd, v1, v2, v3, v4, Ent.row, invRow]))))
  have hb : lenE e ≤ 5242880 := by unfold lenE; omega
  refine dw_after (fun k : Nat => kn 58 [(2, .one (.bx 2 1 0 0)), (3, .one (.bx 3 8 0 0)), (5, dv (li ((lenE e + sumA (e.alts.take k) : Nat) : Int))), (6, dv (li k))] (ml [(2, [invRow g]), (3, [e.row])])) (fun k => k ≤ e.alts.length ∧ (k = e.alts.length ∨ 400 < lenE e + sumA (e.alts.take k))) ?_ ?_
  · refine dw_loop_fam (fun k : Nat => kn 58 [(2, .one (.bx 2 1 0 0)), (3, .one (.bx 3 8 0 0)), (5, dv (li ((lenE e + sumA (e.alts.take k) : Nat) : Int))), (6, dv (li k))] (ml [(2, [invRow g]), (3, [e.row])])) (fun k => k ≤ e.alts.length) (fun k => e.alts.length - k) 0 (kM rfl (by simp (decide := true) only [go_sem, reduceIte, reduceCtorEq, jA, jB, jC, jD, jE, jF, List.take_zero, sumA, List.map_nil, List.sum_nil, Nat.add_zero]) (by simp (decide := true) only [go_sem, reduceIte, reduceCtorEq, jA, jB, jC, jD, jE, jF, Ent.row, invRow])) (Nat.zero_le _) ?_
    intro k hk
    cases hlt : decide ((k : Int) < (e.alts.length : Int))
    · have hke : k = e.alts.length := by simp at hlt; omega
      (repeat' (first | refine kA ?_ | refine kB ?_ | ((first | (refine kC (N := 58) rfl (by kernel_rfl) ?_) | refine kD ?_ | refine kE ?_); simp (decide := true) only [go_sem, reduceIte, reduceCtorEq, jA, jB, jC, jD, jE, jF, hlt, Ent.row, invRow]) | (apply kG; (simp (decide := true) only [go_sem, reduceIte, reduceCtorEq, jA, jB, jC, jD, jE, jF, hlt, Ent.row, invRow]; rfl); all_goals (intro hcnd; first | (exact absurd hcnd (by decide)) | skip)) | ((first | refine kH ?_ ?_ | refine kI ?_ ?_) <;> (intro hcnd; simp (decide := true) only [go_sem, reduceIte, reduceCtorEq, jA, jB, jC, jD, jE, jF, hcnd, hlt, Ent.row, invRow]))))
      exact ⟨k, ⟨hk, .inl hke⟩, kM rfl (by simp (decide := true) only [go_sem, reduceIte, reduceCtorEq, jA, jB, jC, jD, jE, jF]) (by simp (decide := true) only [go_sem, reduceIte, reduceCtorEq, jA, jB, jC, jD, jE, jF, Ent.row, invRow])⟩
    · have hkl : k < e.alts.length := by simpa using hlt
      cases h4 : decide (((lenE e + sumA (e.alts.take k) : Nat) : Int) ≤ 400)
      · have h5 : 400 < lenE e + sumA (e.alts.take k) := by simp at h4; omega
        (repeat' (first | refine kA ?_ | refine kB ?_ | ((first | (refine kC (N := 58) rfl (by kernel_rfl) ?_) | refine kD ?_ | refine kE ?_); simp (decide := true) only [go_sem, reduceIte, reduceCtorEq, jA, jB, jC, jD, jE, jF, hlt, h4, Ent.row, invRow]) | (apply kG; (simp (decide := true) only [go_sem, reduceIte, reduceCtorEq, jA, jB, jC, jD, jE, jF, hlt, h4, Ent.row, invRow]; rfl); all_goals (intro hcnd; first | (exact absurd hcnd (by decide)) | skip)) | ((first | refine kH ?_ ?_ | refine kI ?_ ?_) <;> (intro hcnd; simp (decide := true) only [go_sem, reduceIte, reduceCtorEq, jA, jB, jC, jD, jE, jF, hcnd, hlt, h4, Ent.row, invRow]))))
        exact ⟨k, ⟨hk, .inr h5⟩, kM rfl (by simp (decide := true) only [go_sem, reduceIte, reduceCtorEq, jA, jB, jC, jD, jE, jF]) (by simp (decide := true) only [go_sem, reduceIte, reduceCtorEq, jA, jB, jC, jD, jE, jF, Ent.row, invRow])⟩
      · have h5 : lenE e + sumA (e.alts.take k) ≤ 400 := by have := of_decide_eq_true h4; omega
        have hx : e.alts[k]? = some e.alts[k] := List.getElem?_eq_getElem hkl
        obtain ⟨a, hae⟩ : ∃ a, a = e.alts[k] := ⟨_, rfl⟩
        rw [← hae] at hx
        have hal := he.alt a (List.mem_of_getElem? hx)
        have hw := wrap_succ k (by omega)
        have hs : sumA (e.alts.take (k + 1)) = sumA (e.alts.take k) + a.length := by rw [take_snoc_at hx, sumA_snoc]
        have hw2 : IntKind.i64.wrap (((lenE e + sumA (e.alts.take k) : Nat) : Int) + (a.length : Int)) = ((lenE e + sumA (e.alts.take (k + 1)) : Nat) : Int) := by rw [wrap_i64 (by omega) (by omega), hs]; omega
        (repeat' (first | refine kA ?_ | refine kB ?_ | ((first | (refine kC (N := 58) rfl (by kernel_rfl) ?_) | refine kD ?_ | refine kE ?_); simp (decide := true) only [go_sem, reduceIte, reduceCtorEq, jA, jB, jC, jD, jE, jF, hlt, h4, hx, hw, hw2, altC, Ent.row, invRow]) | (apply kG; (simp (decide := true) only [go_sem, reduceIte, reduceCtorEq, jA, jB, jC, jD, jE, jF, hlt, h4, hx, hw, hw2, altC, Ent.row, invRow]; rfl); all_goals (intro hcnd; first | (exact absurd hcnd (by decide)) | skip)) | ((first | refine kH ?_ ?_ | refine kI ?_ ?_) <;> (intro hcnd; simp (decide := true) only [go_sem, reduceIte, reduceCtorEq, jA, jB, jC, jD, jE, jF, hcnd, hlt, h4, hx, hw, hw2, altC, Ent.row, invRow]))))
        exact ⟨k + 1, by omega, by omega, kM rfl (by simp (decide := true) only [go_sem, reduceIte, reduceCtorEq, jA, jB, jC, jD, jE, jF]) (by simp (decide := true) only [go_sem, reduceIte, reduceCtorEq, jA, jB, jC, jD, jE, jF, Ent.row, invRow])⟩
  rintro k ⟨hk, hk2⟩
  have hle := sumA_take e.alts k
  rcases Bool.eq_false_or_eq_true (decide (((lenE e + sumA (e.alts.take k) : Nat) : Int) ≤ 400)) with t1 | t1
  rotate_left
  · have n1 : ¬ lenE e + sumA e.alts ≤ 400 := by have := of_decide_eq_false t1; omega
    (repeat' (first | refine kA ?_ | refine kB ?_ | ((first | (refine kC (N := 58) rfl (by kernel_rfl) ?_) | refine kD ?_ | refine kE ?_ | refine kF ?_); simp (decide := true) only [go_sem, reduceIte, reduceCtorEq, jA, jB, jC, jD, jE, jF, t1, Ent.row, invRow]) | (apply kG; (simp (decide := true) only [go_sem, reduceIte, reduceCtorEq, jA, jB, jC, jD, jE, jF, t1, Ent.row, invRow]; rfl); all_goals (intro hcnd; first | (exact absurd hcnd (by decide)) | skip)) | ((first | refine kH ?_ ?_ | refine kI ?_ ?_) <;> (intro hcnd; simp (decide := true) only [go_sem, reduceIte, reduceCtorEq, jA, jB, jC, jD, jE, jF, hcnd, t1, Ent.row, invRow]))))
    rw [someB, decide_eq_false n1]; rfl
  have n1 : lenE e + sumA e.alts ≤ 400 := by
    have := of_decide_eq_true t1
    rcases hk2 with h | h
    · rw [h, List.take_length] at this; omega
    · omega
  rcases Bool.eq_false_or_eq_true (decide ((g.length : Int) ≤ 70)) with t2 | t2
  · have n2 : g.length ≤ 70 := by have := of_decide_eq_true t2; omega
    (repeat' (first | refine kA ?_ | refine kB ?_ | ((first | (refine kC (N := 58) rfl (by kernel_rfl) ?_) | refine kD ?_ | refine kE ?_ | (refine kN (hC) (kP rfl) ?_) | (refine kO (hC) (kP rfl) ?_) | refine kF ?_); simp (decide := true) only [go_sem, reduceIte, reduceCtorEq, jA, jB, jC, jD, jE, jF, t1, t2, Ent.row, invRow]) | (apply kG; (simp (decide := true) only [go_sem, reduceIte, reduceCtorEq, jA, jB, jC, jD, jE, jF, t1, t2, Ent.row, invRow]; rfl); all_goals (intro hcnd; first | (exact absurd hcnd (by decide)) | skip)) | ((first | refine kH ?_ ?_ | refine kI ?_ ?_) <;> (intro hcnd; simp (decide := true) only [go_sem, reduceIte, reduceCtorEq, jA, jB, jC, jD, jE, jF, hcnd, t1, t2, Ent.row, invRow]))))
    rw [someB, decide_eq_true n1, decide_eq_true n2]; rfl
  · have n2 : ¬ g.length ≤ 70 := by have := of_decide_eq_false t2; omega
    (repeat' (first | refine kA ?_ | refine kB ?_ | ((first | (refine kC (N := 58) rfl (by kernel_rfl) ?_) | refine kD ?_ | refine kE ?_ | refine kF ?_); simp (decide := true) only [go_sem, reduceIte, reduceCtorEq, jA, jB, jC, jD, jE, jF, t1, t2, Ent.row, invRow]) | (apply kG; (simp (decide := true) only [go_sem, reduceIte, reduceCtorEq, jA, jB, jC, jD, jE, jF, t1, t2, Ent.row, invRow]; rfl); all_goals (intro hcnd; first | (exact absurd hcnd (by decide)) | skip)) | ((first | refine kH ?_ ?_ | refine kI ?_ ?_) <;> (intro hcnd; simp (decide := true) only [go_sem, reduceIte, reduceCtorEq, jA, jB, jC, jD, jE, jF, hcnd, t1, t2, Ent.row, invRow]))))
    rw [someB, decide_eq_true n1, decide_eq_false n2]; rfl
end Go.Proofs.YtiaamlaibfpdgaaDoor
