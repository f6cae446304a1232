/- Entries: the law of Attest and Forget. -/
import Derived.Test.YtiaamlaibfpdgaaGreatDoorm5
set_option linter.all false
set_option linter.unusedVariables false
set_option linter.unusedSimpArgs false
open Nat renaming reduceEqDiff → jA, reduceAdd → jB, reduceMul → jC, reduceSub → jD, reduceLeDiff → jE, reduceBEq → jF
namespace Go.Proofs.YtiaamlaibfpdgaaGreatDoor
open Go.Dl
open Go.Dl renaming dw_seq → kA, dw_block → kB, dw_reg → kC, dw_skip → kD, dw_exit → kE, dw_ret → kF, dw_cond → kG, guardC_f → kH, guardC_t → kI, dw_drw → kJ, dw_weaken → kK, sub_kn → kL, sub_ml → kM
open Go.Dl.CallC renaming mk → kN, light → kO
open Go.Dl.LeL renaming of_eq → kP
attribute [local irreducible] DW DCalls ECalls wk IW

theorem ii (n : Int) : (n == n) = true := by simp
theorem att_ref {g : List Phon} {e : Ent} {x : Lnk} (h : checkE g e = 0) : attE e x = rAttE e x := by
  obtain ⟨_, _, _, _, h4⟩ := check_parts h
  obtain ⟨q1, q2⟩ := (refsE_iff e.refs).1 h4
  unfold attE rAttE
  by_cases n1 : okRef x = false
  · rw [if_pos n1, if_pos n1]
  rw [if_neg n1, if_neg n1]
  by_cases n2 : hasR e.refs x = true
  · obtain ⟨k, e1, hk, e2, e3⟩ := wo_old q2.2 n2
    have hkl := List.getElem?_eq_some_iff.1 hk
    have hl : wo e.refs x true ++ [x] ++ wo e.refs x false = e.refs := by
      rw [e2, e3, List.append_assoc, List.singleton_append, ← hkl.2, ← List.drop_eq_getElem_cons hkl.1, List.take_append_drop]
    rw [if_pos n2, hl, if_neg (by omega)]
  · have n3 : hasR e.refs x = false := by simpa using n2
    rw [if_neg n2, wo_new q2.2 n3, with_len]
    by_cases n4 : 12 ≤ e.refs.length
    · rw [if_pos n4, if_pos (by omega)]
    · rw [if_neg n4, if_neg (by omega)]
theorem forg_ref {g : List Phon} {e : Ent} {x : Lnk} (h : checkE g e = 0) : forgE e x = rForgE e x := by
  obtain ⟨_, _, _, _, h4⟩ := check_parts h
  obtain ⟨q1, q2⟩ := (refsE_iff e.refs).1 h4
  unfold rForgE
  by_cases n2 : hasR e.refs x = true
  · obtain ⟨k, hk, e1⟩ := forg_at q2 n2
    obtain ⟨k', f1, hk', f2, f3⟩ := wo_old q2.2 n2
    have f4 : forgE e x = ({ e with refs := e.refs.take k' ++ e.refs.drop (k' + 1) }, 0) := by
      rw [forgE, f1, outE, if_neg (by omega)]; simp
    have hl := del_len hk'
    rw [f4, f2, f3, if_neg (by omega)]
  · have n3 : hasR e.refs x = false := by simpa using n2
    rw [forg_no n3, if_pos (wo_none n3)]

set_option maxRecDepth 20000 in
set_option maxHeartbeats 8000000 in
theorem lawAttests (g : List Phon) (e : Ent) (r : Lnk) (he : MidE e) (hg : ∀ p ∈ g, p.name.size ≤ 1048576) : DCalls Tryz.prog 3 [.agg (invRow g), .agg e.row, .agg r.row] (dv (lb true)) := by
  have hs := some_D g e he hg
  have hc := copy_D e he
  have hC := rCheck_D g e he
  have ha := attest_D e r he.refs
  have hd := forget_D e r he.refs
  have hb := rAttest_D e r he.refs
  have hf := rForget_D e r he.refs
  simp only [Ent.row, invRow, Lnk.row] at hs hc hC
  refine dcalls (N := 73) (rs := [.tmp 6]) (by kernel_rfl) Tryz.func3 rfl rfl rfl (by simp) ?_
  cases t1 : someB g e
  · rw [t1] at hs
    (repeat' (first | refine kA ?_ | refine kB ?_ | ((first | (refine kC (N := 73) rfl (by kernel_rfl) ?_) | refine kD ?_ | refine kE ?_ | (refine kN (hs) (kP rfl) ?_) | (refine kO (hs) (kP rfl) ?_) | (refine kN (awake_D) (kP rfl) ?_) | (refine kO (awake_D) (kP rfl) ?_) | refine kF ?_); simp (decide := true) only [go_sem, reduceIte, reduceCtorEq, jA, jB, jC, jD, jE, jF, Ent.row, invRow, Lnk.row]) | (apply kG; (simp (decide := true) only [go_sem, reduceIte, reduceCtorEq, jA, jB, jC, jD, jE, jF, Ent.row, invRow, Lnk.row]; rfl); all_goals (intro hcnd; first | (exact absurd hcnd (by decide)) | skip)) | ((first | refine kH ?_ ?_ | refine kI ?_ ?_) <;> (intro hcnd; simp (decide := true) only [go_sem, reduceIte, reduceCtorEq, jA, jB, jC, jD, jE, jF, hcnd, Ent.row, invRow, Lnk.row]))))
  rw [t1] at hs
  cases t2 : checkE g e != 0
  rotate_left
  · (repeat' (first | refine kA ?_ | refine kB ?_ | ((first | (refine kC (N := 73) rfl (by kernel_rfl) ?_) | refine kD ?_ | refine kE ?_ | (refine kN (hs) (kP rfl) ?_) | (refine kO (hs) (kP rfl) ?_) | (refine kN (hC) (kP rfl) ?_) | (refine kO (hC) (kP rfl) ?_) | (refine kN (awake_D) (kP rfl) ?_) | (refine kO (awake_D) (kP rfl) ?_) | refine kF ?_); simp (decide := true) only [go_sem, reduceIte, reduceCtorEq, jA, jB, jC, jD, jE, jF, t2, Ent.row, invRow, Lnk.row]) | (apply kG; (simp (decide := true) only [go_sem, reduceIte, reduceCtorEq, jA, jB, jC, jD, jE, jF, t2, Ent.row, invRow, Lnk.row]; rfl); all_goals (intro hcnd; first | (exact absurd hcnd (by decide)) | skip)) | ((first | refine kH ?_ ?_ | refine kI ?_ ?_) <;> (intro hcnd; simp (decide := true) only [go_sem, reduceIte, reduceCtorEq, jA, jB, jC, jD, jE, jF, hcnd, t2, Ent.row, invRow, Lnk.row]))))
  have hz : checkE g e = 0 := by simpa using t2
  rw [← att_ref hz] at hb
  rw [← forg_ref hz] at hf
  generalize attE e r = pa at ha hb
  generalize forgE e r = pd at hd hf
  obtain ⟨f, x⟩ := pa
  obtain ⟨f2, y⟩ := pd
  have hS1 := same24_D f f
  have hS2 := same24_D f2 f2
  rw [decide_eq_true rfl] at hS1 hS2
  simp only [Ent.row, Lnk.row] at ha hd hb hf hS1 hS2
  (repeat' (first | refine kA ?_ | refine kB ?_ | ((first | (refine kC (N := 73) rfl (by kernel_rfl) ?_) | refine kD ?_ | refine kE ?_ | (refine kN (hs) (kP rfl) ?_) | (refine kO (hs) (kP rfl) ?_) | (refine kN (hC) (kP rfl) ?_) | (refine kO (hC) (kP rfl) ?_)); simp (decide := true) only [go_sem, reduceIte, reduceCtorEq, jA, jB, jC, jD, jE, jF, t2, Ent.row, invRow, Lnk.row]) | (apply kG; (simp (decide := true) only [go_sem, reduceIte, reduceCtorEq, jA, jB, jC, jD, jE, jF, t2, Ent.row, invRow, Lnk.row]; rfl); all_goals (intro hcnd; first | (exact absurd hcnd (by decide)) | skip)) | ((first | refine kH ?_ ?_ | refine kI ?_ ?_) <;> (intro hcnd; simp (decide := true) only [go_sem, reduceIte, reduceCtorEq, jA, jB, jC, jD, jE, jF, hcnd, t2, Ent.row, invRow, Lnk.row]))))
  refine dw_afterN (fun _ : Unit => kn 73 [(4, .one (.bx 4 8 0 0)), (5, .one (.bx 5 2 0 0)), (7, .one (.bx 7 8 0 0)), (8, dv (li x))] (ml [(4, [e.row]), (5, [r.row]), (7, [f.row])])) (fun _ => True) ?_ ?_
  · apply dw_treeM (id := 3) (N := 73) [] [[], [0], [], [1, 2, 1], [3], [4], [4], [], [7, 5, 3, 0, 1, 2, 3, 4, 5, 7], [6, 8, 0, 1, 2, 3, 4, 5, 6, 7, 8]] (.thr 0 (.thr 1 (.two 2 (.two 3 (.bl 4 (.ex 5 (.ex 6 (.run [7, 8, 9] .leaf)))) 7 (.run [3, 4] (.ex 5 (.ex 6 (.run [8, 9] .leaf))))) 7 (.run [2, 3, 4] (.ex 5 (.ex 6 (.run [8, 9] .leaf))))) 2 (.two 1 (.two 3 (.bl 4 (.ex 5 (.ex 6 (.run [7, 8, 9] .leaf)))) 7 (.run [3, 4] (.ex 5 (.ex 6 (.run [8, 9] .leaf))))) 7 (.run [1, 3, 4] (.ex 5 (.ex 6 (.run [8, 9] .leaf))))) 7 (.dia 1 2 (.run [3, 4] (.ex 5 (.ex 6 (.run [8, 9] .leaf)))))) 2 (.two 0 (.two 1 (.two 3 (.bl 4 (.ex 5 (.ex 6 (.run [7, 8, 9] .leaf)))) 7 (.run [3, 4] (.ex 5 (.ex 6 (.run [8, 9] .leaf))))) 7 (.run [1, 3, 4] (.ex 5 (.ex 6 (.run [8, 9] .leaf))))) 7 (.run [0, 1, 3, 4] (.ex 5 (.ex 6 (.run [8, 9] .leaf))))) 7 (.two 0 (.dia 1 2 (.run [3, 4] (.ex 5 (.ex 6 (.run [8, 9] .leaf))))) 2 (.run [0, 1, 3, 4] (.ex 5 (.ex 6 (.run [8, 9] .leaf)))))); kernel_rfl; rfl; kernel_rfl; kernel_rfl
    simp (decide := true) only [go_sem, reduceIte, reduceCtorEq, jA, jB, jC, jD, jE, jF, Ent.row, Lnk.row]
    (repeat' (first | apply And.intro | (refine kN (hc) (kP rfl) ?_; simp (decide := true) only [go_sem, reduceIte, reduceCtorEq, jA, jB, jC, jD, jE, jF, Ent.row, Lnk.row]) | (refine kO (hc) (kP rfl) ?_; simp (decide := true) only [go_sem, reduceIte, reduceCtorEq, jA, jB, jC, jD, jE, jF, Ent.row, Lnk.row]) | (refine kN (ha) (kP rfl) ?_; simp (decide := true) only [go_sem, reduceIte, reduceCtorEq, jA, jB, jC, jD, jE, jF, Ent.row, Lnk.row]) | (refine kO (ha) (kP rfl) ?_; simp (decide := true) only [go_sem, reduceIte, reduceCtorEq, jA, jB, jC, jD, jE, jF, Ent.row, Lnk.row])))
    all_goals exact ⟨(), kM rfl (by simp (decide := true) only [go_sem, reduceIte, reduceCtorEq, jA, jB, jC, jD, jE, jF]) (by simp (decide := true) only [go_sem, reduceIte, reduceCtorEq, jA, jB, jC, jD, jE, jF, Ent.row, Lnk.row])⟩
  rintro _ _
  (repeat' (first | refine kA ?_ | refine kB ?_ | ((first | (refine kC (N := 73) rfl (by kernel_rfl) ?_) | refine kD ?_ | refine kE ?_ | (refine kN (hb) (kP rfl) ?_) | (refine kO (hb) (kP rfl) ?_)); simp (decide := true) only [go_sem, reduceIte, reduceCtorEq, jA, jB, jC, jD, jE, jF, Ent.row, invRow, Lnk.row]) | (apply kG; (simp (decide := true) only [go_sem, reduceIte, reduceCtorEq, jA, jB, jC, jD, jE, jF, Ent.row, invRow, Lnk.row]; rfl); all_goals (intro hcnd; first | (exact absurd hcnd (by decide)) | skip)) | ((first | refine kH ?_ ?_ | refine kI ?_ ?_) <;> (intro hcnd; simp (decide := true) only [go_sem, reduceIte, reduceCtorEq, jA, jB, jC, jD, jE, jF, hcnd, Ent.row, invRow, Lnk.row]))))
  refine dw_afterN (fun _ : Unit => kn 73 [(4, .one (.bx 4 8 0 0)), (5, .one (.bx 5 2 0 0)), (7, .one (.bx 7 8 0 0)), (8, dv (li x)), (9, .one (.bx 9 8 0 0)), (10, dv (li x)), (11, .one (.bx 11 8 0 0)), (12, dv (li y))] (ml [(4, [e.row]), (5, [r.row]), (7, [f.row]), (9, [f.row]), (11, [f2.row])])) (fun _ => True) ?_ ?_
  · apply dw_treeM (id := 5) (N := 73) [] [[], [0], [], [1, 2, 1], [3], [4], [4], [], [7, 5, 3, 0, 1, 2, 3, 4, 5, 7], [6, 8, 0, 1, 2, 3, 4, 5, 6, 7, 8]] (.thr 0 (.thr 1 (.two 2 (.two 3 (.bl 4 (.ex 5 (.ex 6 (.run [7, 8, 9] .leaf)))) 7 (.run [3, 4] (.ex 5 (.ex 6 (.run [8, 9] .leaf))))) 7 (.run [2, 3, 4] (.ex 5 (.ex 6 (.run [8, 9] .leaf))))) 2 (.two 1 (.two 3 (.bl 4 (.ex 5 (.ex 6 (.run [7, 8, 9] .leaf)))) 7 (.run [3, 4] (.ex 5 (.ex 6 (.run [8, 9] .leaf))))) 7 (.run [1, 3, 4] (.ex 5 (.ex 6 (.run [8, 9] .leaf))))) 7 (.dia 1 2 (.run [3, 4] (.ex 5 (.ex 6 (.run [8, 9] .leaf)))))) 2 (.two 0 (.two 1 (.two 3 (.bl 4 (.ex 5 (.ex 6 (.run [7, 8, 9] .leaf)))) 7 (.run [3, 4] (.ex 5 (.ex 6 (.run [8, 9] .leaf))))) 7 (.run [1, 3, 4] (.ex 5 (.ex 6 (.run [8, 9] .leaf))))) 7 (.run [0, 1, 3, 4] (.ex 5 (.ex 6 (.run [8, 9] .leaf))))) 7 (.two 0 (.dia 1 2 (.run [3, 4] (.ex 5 (.ex 6 (.run [8, 9] .leaf))))) 2 (.run [0, 1, 3, 4] (.ex 5 (.ex 6 (.run [8, 9] .leaf)))))); kernel_rfl; rfl; kernel_rfl; kernel_rfl
    simp (decide := true) only [go_sem, reduceIte, reduceCtorEq, jA, jB, jC, jD, jE, jF, Ent.row, Lnk.row]
    (repeat' (first | apply And.intro | (refine kN (hc) (kP rfl) ?_; simp (decide := true) only [go_sem, reduceIte, reduceCtorEq, jA, jB, jC, jD, jE, jF, Ent.row, Lnk.row]) | (refine kO (hc) (kP rfl) ?_; simp (decide := true) only [go_sem, reduceIte, reduceCtorEq, jA, jB, jC, jD, jE, jF, Ent.row, Lnk.row]) | (refine kN (hd) (kP rfl) ?_; simp (decide := true) only [go_sem, reduceIte, reduceCtorEq, jA, jB, jC, jD, jE, jF, Ent.row, Lnk.row]) | (refine kO (hd) (kP rfl) ?_; simp (decide := true) only [go_sem, reduceIte, reduceCtorEq, jA, jB, jC, jD, jE, jF, Ent.row, Lnk.row])))
    all_goals exact ⟨(), kM rfl (by simp (decide := true) only [go_sem, reduceIte, reduceCtorEq, jA, jB, jC, jD, jE, jF]) (by simp (decide := true) only [go_sem, reduceIte, reduceCtorEq, jA, jB, jC, jD, jE, jF, Ent.row, Lnk.row])⟩
  rintro _ _
  (repeat' (first | refine kA ?_ | refine kB ?_ | ((first | (refine kC (N := 73) rfl (by kernel_rfl) ?_) | refine kD ?_ | refine kE ?_ | (refine kN (hf) (kP rfl) ?_) | (refine kO (hf) (kP rfl) ?_) | (refine kN (hS1) (kP rfl) ?_) | (refine kO (hS1) (kP rfl) ?_) | (refine kN (hS2) (kP rfl) ?_) | (refine kO (hS2) (kP rfl) ?_) | (refine kN (awake_D) (kP rfl) ?_) | (refine kO (awake_D) (kP rfl) ?_) | refine kF ?_); simp (decide := true) only [go_sem, reduceIte, reduceCtorEq, jA, jB, jC, jD, jE, jF, ii, Ent.row, invRow, Lnk.row]) | (apply kG; (simp (decide := true) only [go_sem, reduceIte, reduceCtorEq, jA, jB, jC, jD, jE, jF, ii, Ent.row, invRow, Lnk.row]; rfl); all_goals (intro hcnd; first | (exact absurd hcnd (by decide)) | skip)) | ((first | refine kH ?_ ?_ | refine kI ?_ ?_) <;> (intro hcnd; simp (decide := true) only [go_sem, reduceIte, reduceCtorEq, jA, jB, jC, jD, jE, jF, hcnd, ii, Ent.row, invRow, Lnk.row]))))
end Go.Proofs.YtiaamlaibfpdgaaGreatDoor
