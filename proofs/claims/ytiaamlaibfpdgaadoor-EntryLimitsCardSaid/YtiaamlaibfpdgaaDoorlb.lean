/- Entries: the laws (II). -/
import Derived.Test.YtiaamlaibfpdgaaDoorla
set_option linter.all false
set_option linter.unusedVariables false
set_option linter.unusedSimpArgs false
open Nat renaming reduceEqDiff → jA, reduceAdd → jB, reduceMul → jC, reduceSub → jD, reduceLeDiff → jE, reduceBEq → jF
namespace Go.Proofs.YtiaamlaibfpdgaaDoor
abbrev kplb19 : List (Nat × Go.Dl.Mode) := [(0, .light), (1, .light), (2, .step), (3, .light), (4, .light), (5, .light), (6, .light), (7, .light), (8, .light), (9, .light), (10, .light), (11, .step), (12, .light), (13, .light), (14, .light), (15, .step), (16, .light), (17, .light)]
abbrev kplb20 : List (Nat × Go.Dl.Mode) := [(0, .light), (1, .light), (2, .step), (3, .light), (4, .light), (5, .light), (6, .light), (7, .step), (8, .light), (9, .light)]
abbrev kplb21 : List (Nat × Go.Dl.Mode) := [(0, .light), (1, .light), (2, .light), (3, .light), (4, .light), (5, .light), (6, .light), (7, .step), (8, .light), (9, .light), (10, .light), (11, .light), (12, .light), (13, .step), (14, .light), (15, .light), (16, .step), (17, .light), (18, .light)]
end Go.Proofs.YtiaamlaibfpdgaaDoor
namespace Go.Proofs.YtiaamlaibfpdgaaDoor
open Go.Dl
open Go.Dl renaming dw_seq → kA, dw_block → kB, dw_reg → kC, dw_skip → kD, dw_exit → kE, dw_ret → kF, dw_cond → kG, guardC_f → kH, guardC_t → kI, dw_drw → kJ, dw_weaken → kK, sub_kn → kL, sub_ml → kM
open Go.Dl.CallC renaming mk → kN, light → kO
open Go.Dl.LeL renaming of_eq → kP
attribute [local irreducible] DW DCalls ECalls wk IW

theorem someB_len {g : List Phon} {e : Ent} (h : someB g e = true) : e.form.length ≤ 400 ∧ e.alts.length ≤ 400 ∧ e.senses.length ≤ 400 ∧ e.links.length ≤ 400 ∧ e.refs.length ≤ 400 := by
  unfold someB lenE at h
  simp only [Bool.and_eq_true, decide_eq_true_eq] at h
  omega

set_option maxRecDepth 10000 in
set_option maxHeartbeats 4000000 in
theorem lawChecks (g : List Phon) (e : Ent) (he : MidE e) (hg : ∀ p ∈ g, p.name.size ≤ 1048576) : DCalls Tryd.prog 5 [.agg (invRow g), .agg e.row] (dv (lb true)) := by
  have hs := some_D g e he hg
  have hc := copy_D e he
  have h1 := check_D g e
  have h2 := rCheck_D g e he
  simp only [Ent.row, invRow] at hs hc h1 h2
  refine dcalls (N := 22) (rs := [.tmp 4]) (by kernel_rfl) Tryd.func5 rfl rfl rfl (by simp) ?_
  cases t1 : someB g e
  · rw [t1] at hs
    (repeat' (first | refine kA ?_ | refine kB ?_ | ((first | (refine kC (N := 22) rfl (by kernel_rfl) ?_) | (apply kJ (id := 1) (N := 22) kplb19; kernel_rfl; rfl; kernel_rfl; (repeat (first | exact Picks.nil | (apply Picks.cons; rfl)))) | refine kD ?_ | refine kE ?_ | (refine kN (hs) (kP rfl) ?_) | (refine kO (hs) (kP rfl) ?_) | (refine kN (awake_D) (kP rfl) ?_) | (refine kO (awake_D) (kP rfl) ?_) | refine kF ?_); simp (decide := true) only [go_sem, reduceIte, reduceCtorEq, jA, jB, jC, jD, jE, jF, Ent.row, invRow]) | (apply kG; (simp (decide := true) only [go_sem, reduceIte, reduceCtorEq, jA, jB, jC, jD, jE, jF, Ent.row, invRow]; rfl); all_goals (intro hcnd; first | (exact absurd hcnd (by decide)) | skip)) | ((first | refine kH ?_ ?_ | refine kI ?_ ?_) <;> (intro hcnd; simp (decide := true) only [go_sem, reduceIte, reduceCtorEq, jA, jB, jC, jD, jE, jF, hcnd, Ent.row, invRow]))))
  · rw [t1] at hs
    (repeat' (first | refine kA ?_ | refine kB ?_ | ((first | (refine kC (N := 22) rfl (by kernel_rfl) ?_) | (apply kJ (id := 1) (N := 22) kplb19; kernel_rfl; rfl; kernel_rfl; (repeat (first | exact Picks.nil | (apply Picks.cons; rfl)))) | refine kD ?_ | refine kE ?_ | (refine kN (hs) (kP rfl) ?_) | (refine kO (hs) (kP rfl) ?_) | (refine kN (hc) (kP rfl) ?_) | (refine kO (hc) (kP rfl) ?_) | (refine kN (h1) (kP rfl) ?_) | (refine kO (h1) (kP rfl) ?_) | (refine kN (h2) (kP rfl) ?_) | (refine kO (h2) (kP rfl) ?_) | (refine kN (awake_D) (kP rfl) ?_) | (refine kO (awake_D) (kP rfl) ?_) | refine kF ?_); simp (decide := true) only [go_sem, reduceIte, reduceCtorEq, jA, jB, jC, jD, jE, jF, ii, Ent.row, invRow]) | (apply kG; (simp (decide := true) only [go_sem, reduceIte, reduceCtorEq, jA, jB, jC, jD, jE, jF, ii, Ent.row, invRow]; rfl); all_goals (intro hcnd; first | (exact absurd hcnd (by decide)) | skip)) | ((first | refine kH ?_ ?_ | refine kI ?_ ?_) <;> (intro hcnd; simp (decide := true) only [go_sem, reduceIte, reduceCtorEq, jA, jB, jC, jD, jE, jF, hcnd, ii, Ent.row, invRow]))))

set_option maxRecDepth 10000 in
set_option maxHeartbeats 4000000 in
theorem lawSame (e f : Ent) (he : MidE e) (hf : MidE f) : DCalls Tryd.prog 8 [.agg e.row, .agg f.row] (dv (lb true)) := by
  have hs := some_D twoG e he (by decide)
  have ht := some_D twoG f hf (by decide)
  have h0 := two_D
  have hc := copy_D e he
  have hd := copy_D f hf
  have h1 := same_D e f
  have h2 := same24_D e f
  have h3 := same_D e e
  rw [decide_eq_true rfl] at h3
  simp only [Ent.row, invRow] at hs ht hc hd h0 h1 h2 h3
  refine dcalls (N := 34) (rs := [.tmp 4]) (by kernel_rfl) Tryd.func8 rfl rfl rfl (by simp) ?_
  cases t1 : someB twoG e
  · rw [t1] at hs
    (repeat' (first | refine kA ?_ | refine kB ?_ | ((first | (refine kC (N := 34) rfl (by kernel_rfl) ?_) | (apply kJ (id := 1) (N := 34) kplb20; kernel_rfl; rfl; kernel_rfl; (repeat (first | exact Picks.nil | (apply Picks.cons; rfl)))) | (apply kJ (id := 3) (N := 34) kplb21; kernel_rfl; rfl; kernel_rfl; (repeat (first | exact Picks.nil | (apply Picks.cons; rfl)))) | refine kD ?_ | refine kE ?_ | (refine kN (h0) (kP rfl) ?_) | (refine kO (h0) (kP rfl) ?_) | (refine kN (hs) (kP rfl) ?_) | (refine kO (hs) (kP rfl) ?_) | (refine kN (awake_D) (kP rfl) ?_) | (refine kO (awake_D) (kP rfl) ?_) | refine kF ?_); simp (decide := true) only [go_sem, reduceIte, reduceCtorEq, jA, jB, jC, jD, jE, jF, Ent.row, invRow]) | (apply kG; (simp (decide := true) only [go_sem, reduceIte, reduceCtorEq, jA, jB, jC, jD, jE, jF, Ent.row, invRow]; rfl); all_goals (intro hcnd; first | (exact absurd hcnd (by decide)) | skip)) | ((first | refine kH ?_ ?_ | refine kI ?_ ?_) <;> (intro hcnd; simp (decide := true) only [go_sem, reduceIte, reduceCtorEq, jA, jB, jC, jD, jE, jF, hcnd, Ent.row, invRow]))))
  rw [t1] at hs
  cases t2 : someB twoG f
  · rw [t2] at ht
    (repeat' (first | refine kA ?_ | refine kB ?_ | ((first | (refine kC (N := 34) rfl (by kernel_rfl) ?_) | (apply kJ (id := 1) (N := 34) kplb20; kernel_rfl; rfl; kernel_rfl; (repeat (first | exact Picks.nil | (apply Picks.cons; rfl)))) | (apply kJ (id := 3) (N := 34) kplb21; kernel_rfl; rfl; kernel_rfl; (repeat (first | exact Picks.nil | (apply Picks.cons; rfl)))) | refine kD ?_ | refine kE ?_ | (refine kN (h0) (kP rfl) ?_) | (refine kO (h0) (kP rfl) ?_) | (refine kN (hs) (kP rfl) ?_) | (refine kO (hs) (kP rfl) ?_) | (refine kN (ht) (kP rfl) ?_) | (refine kO (ht) (kP rfl) ?_) | (refine kN (awake_D) (kP rfl) ?_) | (refine kO (awake_D) (kP rfl) ?_) | refine kF ?_); simp (decide := true) only [go_sem, reduceIte, reduceCtorEq, jA, jB, jC, jD, jE, jF, Ent.row, invRow]) | (apply kG; (simp (decide := true) only [go_sem, reduceIte, reduceCtorEq, jA, jB, jC, jD, jE, jF, Ent.row, invRow]; rfl); all_goals (intro hcnd; first | (exact absurd hcnd (by decide)) | skip)) | ((first | refine kH ?_ ?_ | refine kI ?_ ?_) <;> (intro hcnd; simp (decide := true) only [go_sem, reduceIte, reduceCtorEq, jA, jB, jC, jD, jE, jF, hcnd, Ent.row, invRow]))))
  rw [t2] at ht
  (repeat' (first | refine kA ?_ | refine kB ?_ | ((first | (refine kC (N := 34) rfl (by kernel_rfl) ?_) | (apply kJ (id := 1) (N := 34) kplb20; kernel_rfl; rfl; kernel_rfl; (repeat (first | exact Picks.nil | (apply Picks.cons; rfl)))) | (apply kJ (id := 3) (N := 34) kplb21; kernel_rfl; rfl; kernel_rfl; (repeat (first | exact Picks.nil | (apply Picks.cons; rfl)))) | refine kD ?_ | refine kE ?_ | (refine kN (h0) (kP rfl) ?_) | (refine kO (h0) (kP rfl) ?_) | (refine kN (hs) (kP rfl) ?_) | (refine kO (hs) (kP rfl) ?_) | (refine kN (ht) (kP rfl) ?_) | (refine kO (ht) (kP rfl) ?_) | (refine kN (hc) (kP rfl) ?_) | (refine kO (hc) (kP rfl) ?_) | (refine kN (hd) (kP rfl) ?_) | (refine kO (hd) (kP rfl) ?_) | (refine kN (h1) (kP rfl) ?_) | (refine kO (h1) (kP rfl) ?_) | (refine kN (h2) (kP rfl) ?_) | (refine kO (h2) (kP rfl) ?_) | (refine kN (h3) (kP rfl) ?_) | (refine kO (h3) (kP rfl) ?_) | (refine kN (awake_D) (kP rfl) ?_) | (refine kO (awake_D) (kP rfl) ?_) | refine kF ?_); simp (decide := true) only [go_sem, reduceIte, reduceCtorEq, jA, jB, jC, jD, jE, jF, bb, Ent.row, invRow]) | (apply kG; (simp (decide := true) only [go_sem, reduceIte, reduceCtorEq, jA, jB, jC, jD, jE, jF, bb, Ent.row, invRow]; rfl); all_goals (intro hcnd; first | (exact absurd hcnd (by decide)) | skip)) | ((first | refine kH ?_ ?_ | refine kI ?_ ?_) <;> (intro hcnd; simp (decide := true) only [go_sem, reduceIte, reduceCtorEq, jA, jB, jC, jD, jE, jF, hcnd, bb, Ent.row, invRow]))))
end Go.Proofs.YtiaamlaibfpdgaaDoor
