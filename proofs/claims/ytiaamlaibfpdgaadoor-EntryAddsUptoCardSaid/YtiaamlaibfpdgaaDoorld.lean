/- Entries: the laws (III). -/
import Derived.Test.YtiaamlaibfpdgaaDoorlb
set_option linter.all false
set_option linter.unusedVariables false
set_option linter.unusedSimpArgs false
open Nat renaming reduceEqDiff → jA, reduceAdd → jB, reduceMul → jC, reduceSub → jD, reduceLeDiff → jE, reduceBEq → jF
namespace Go.Proofs.YtiaamlaibfpdgaaDoor
open Go.Dl
open Go.Dl renaming dw_seq → kA, dw_block → kB, dw_reg → kC, dw_skip → kD, dw_exit → kE, dw_ret → kF, dw_cond → kG, guardC_f → kH, guardC_t → kI, dw_drw → kJ, dw_weaken → kK, sub_kn → kL, sub_ml → kM
open Go.Dl.CallC renaming mk → kN, light → kO
open Go.Dl.LeL renaming of_eq → kP
attribute [local irreducible] DW DCalls ECalls wk IW

set_option maxRecDepth 20000 in
set_option maxHeartbeats 8000000 in
theorem lawAdds (g : List Phon) (e : Ent) (s : Sns) (he : MidE e) (hg : ∀ p ∈ g, p.name.size ≤ 1048576) (h1 : s.gloss.size ≤ 1048576) (h2 : s.txt.size ≤ 1048576) : DCalls Tryd.prog 7 [.agg (invRow g), .agg e.row, .agg s.row] (dv (lb true)) := by
  have hs := some_D g e he hg
  have hc := copy_D e he
  have hC := rCheck_D g e he
  have ha := add_D e s
  have hr := rAdd_D e s he h1 h2
  generalize addE e s = p at ha hr
  obtain ⟨f, x⟩ := p
  have hS := same24_D f f
  rw [decide_eq_true rfl] at hS
  simp only [Ent.row, invRow, Sns.row] at hs hc hC ha hr hS
  refine dcalls (N := 46) (rs := [.tmp 6]) (by kernel_rfl) Tryd.func7 rfl rfl rfl (by simp) ?_
  cases t1 : someB g e
  · rw [t1] at hs
    (repeat' (first | refine kA ?_ | refine kB ?_ | ((first | (refine kC (N := 46) rfl (by kernel_rfl) ?_) | refine kD ?_ | refine kE ?_ | (refine kN (hs) (kP rfl) ?_) | (refine kO (hs) (kP rfl) ?_) | (refine kN (awake_D) (kP rfl) ?_) | (refine kO (awake_D) (kP rfl) ?_) | refine kF ?_); simp (decide := true) only [go_sem, reduceIte, reduceCtorEq, jA, jB, jC, jD, jE, jF, Ent.row, invRow, Sns.row]) | (apply kG; (simp (decide := true) only [go_sem, reduceIte, reduceCtorEq, jA, jB, jC, jD, jE, jF, Ent.row, invRow, Sns.row]; rfl); all_goals (intro hcnd; first | (exact absurd hcnd (by decide)) | skip)) | ((first | refine kH ?_ ?_ | refine kI ?_ ?_) <;> (intro hcnd; simp (decide := true) only [go_sem, reduceIte, reduceCtorEq, jA, jB, jC, jD, jE, jF, hcnd, Ent.row, invRow, Sns.row]))))
  rw [t1] at hs
  cases t2 : checkE g e != 0
  rotate_left
  · (repeat' (first | refine kA ?_ | refine kB ?_ | ((first | (refine kC (N := 46) rfl (by kernel_rfl) ?_) | refine kD ?_ | refine kE ?_ | (refine kN (hs) (kP rfl) ?_) | (refine kO (hs) (kP rfl) ?_) | (refine kN (hC) (kP rfl) ?_) | (refine kO (hC) (kP rfl) ?_) | (refine kN (awake_D) (kP rfl) ?_) | (refine kO (awake_D) (kP rfl) ?_) | refine kF ?_); simp (decide := true) only [go_sem, reduceIte, reduceCtorEq, jA, jB, jC, jD, jE, jF, t2, Ent.row, invRow, Sns.row]) | (apply kG; (simp (decide := true) only [go_sem, reduceIte, reduceCtorEq, jA, jB, jC, jD, jE, jF, t2, Ent.row, invRow, Sns.row]; rfl); all_goals (intro hcnd; first | (exact absurd hcnd (by decide)) | skip)) | ((first | refine kH ?_ ?_ | refine kI ?_ ?_) <;> (intro hcnd; simp (decide := true) only [go_sem, reduceIte, reduceCtorEq, jA, jB, jC, jD, jE, jF, hcnd, t2, Ent.row, invRow, Sns.row]))))
  (repeat' (first | refine kA ?_ | refine kB ?_ | ((first | (refine kC (N := 46) rfl (by kernel_rfl) ?_) | refine kD ?_ | refine kE ?_ | (refine kN (hs) (kP rfl) ?_) | (refine kO (hs) (kP rfl) ?_) | (refine kN (hC) (kP rfl) ?_) | (refine kO (hC) (kP rfl) ?_)); simp (decide := true) only [go_sem, reduceIte, reduceCtorEq, jA, jB, jC, jD, jE, jF, t2, Ent.row, invRow, Sns.row]) | (apply kG; (simp (decide := true) only [go_sem, reduceIte, reduceCtorEq, jA, jB, jC, jD, jE, jF, t2, Ent.row, invRow, Sns.row]; rfl); all_goals (intro hcnd; first | (exact absurd hcnd (by decide)) | skip)) | ((first | refine kH ?_ ?_ | refine kI ?_ ?_) <;> (intro hcnd; simp (decide := true) only [go_sem, reduceIte, reduceCtorEq, jA, jB, jC, jD, jE, jF, hcnd, t2, Ent.row, invRow, Sns.row]))))
  refine dw_afterN (fun _ : Unit => kn 46 [(3, .one (.bx 3 1 0 0)), (4, .one (.bx 4 8 0 0)), (5, .one (.bx 5 2 0 0)), (7, .one (.bx 7 8 0 0)), (8, dv (li x))] (ml [(3, [invRow g]), (4, [e.row]), (5, [s.row]), (7, [f.row])])) (fun _ => True) ?_ ?_
  · apply dw_treeM (id := 3) (N := 46) [] [[], [0], [], [1, 2, 1], [3], [4], [4], [], [7, 5, 3, 0, 1, 2, 3, 4, 5, 7], [6, 8, 0, 1, 2, 3, 4, 5, 6, 7, 8]] (.thr 0 (.thr 1 (.two 2 (.two 3 (.bl 4 (.ex 5 (.ex 6 (.run [7, 8, 9] .leaf)))) 7 (.run [3, 4] (.ex 5 (.ex 6 (.run [8, 9] .leaf))))) 7 (.run [2, 3, 4] (.ex 5 (.ex 6 (.run [8, 9] .leaf))))) 2 (.two 1 (.two 3 (.bl 4 (.ex 5 (.ex 6 (.run [7, 8, 9] .leaf)))) 7 (.run [3, 4] (.ex 5 (.ex 6 (.run [8, 9] .leaf))))) 7 (.run [1, 3, 4] (.ex 5 (.ex 6 (.run [8, 9] .leaf))))) 7 (.dia 1 2 (.run [3, 4] (.ex 5 (.ex 6 (.run [8, 9] .leaf)))))) 2 (.two 0 (.two 1 (.two 3 (.bl 4 (.ex 5 (.ex 6 (.run [7, 8, 9] .leaf)))) 7 (.run [3, 4] (.ex 5 (.ex 6 (.run [8, 9] .leaf))))) 7 (.run [1, 3, 4] (.ex 5 (.ex 6 (.run [8, 9] .leaf))))) 7 (.run [0, 1, 3, 4] (.ex 5 (.ex 6 (.run [8, 9] .leaf))))) 7 (.two 0 (.dia 1 2 (.run [3, 4] (.ex 5 (.ex 6 (.run [8, 9] .leaf))))) 2 (.run [0, 1, 3, 4] (.ex 5 (.ex 6 (.run [8, 9] .leaf)))))); kernel_rfl; rfl; kernel_rfl; kernel_rfl
    simp (decide := true) only [go_sem, reduceIte, reduceCtorEq, jA, jB, jC, jD, jE, jF]
    (repeat' (first | apply And.intro | (refine kN (hc) (kP rfl) ?_; simp (decide := true) only [go_sem, reduceIte, reduceCtorEq, jA, jB, jC, jD, jE, jF]) | (refine kO (hc) (kP rfl) ?_; simp (decide := true) only [go_sem, reduceIte, reduceCtorEq, jA, jB, jC, jD, jE, jF]) | (refine kN (ha) (kP rfl) ?_; simp (decide := true) only [go_sem, reduceIte, reduceCtorEq, jA, jB, jC, jD, jE, jF]) | (refine kO (ha) (kP rfl) ?_; simp (decide := true) only [go_sem, reduceIte, reduceCtorEq, jA, jB, jC, jD, jE, jF])))
    all_goals exact ⟨(), kM rfl (by simp (decide := true) only [go_sem, reduceIte, reduceCtorEq, jA, jB, jC, jD, jE, jF]) (by simp (decide := true) only [go_sem, reduceIte, reduceCtorEq, jA, jB, jC, jD, jE, jF, Ent.row, invRow, Sns.row])⟩
  rintro _ _
  (repeat' (first | refine kA ?_ | refine kB ?_ | ((first | (refine kC (N := 46) rfl (by kernel_rfl) ?_) | refine kD ?_ | refine kE ?_ | (refine kN (hr) (kP rfl) ?_) | (refine kO (hr) (kP rfl) ?_) | (refine kN (hS) (kP rfl) ?_) | (refine kO (hS) (kP rfl) ?_) | (refine kN (awake_D) (kP rfl) ?_) | (refine kO (awake_D) (kP rfl) ?_) | refine kF ?_); simp (decide := true) only [go_sem, reduceIte, reduceCtorEq, jA, jB, jC, jD, jE, jF, ii, Ent.row, invRow, Sns.row]) | (apply kG; (simp (decide := true) only [go_sem, reduceIte, reduceCtorEq, jA, jB, jC, jD, jE, jF, ii, Ent.row, invRow, Sns.row]; rfl); all_goals (intro hcnd; first | (exact absurd hcnd (by decide)) | skip)) | ((first | refine kH ?_ ?_ | refine kI ?_ ?_) <;> (intro hcnd; simp (decide := true) only [go_sem, reduceIte, reduceCtorEq, jA, jB, jC, jD, jE, jF, hcnd, ii, Ent.row, invRow, Sns.row]))))
end Go.Proofs.YtiaamlaibfpdgaaDoor
