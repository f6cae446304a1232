/- Entries: the laws (II, forms). -/
import Derived.Test.YtiaamlaibfpdgaaDoorlb
set_option linter.all false
set_option linter.unusedVariables false
set_option linter.unusedSimpArgs false
open Nat renaming reduceEqDiff → jA, reduceAdd → jB, reduceMul → jC, reduceSub → jD, reduceLeDiff → jE, reduceBEq → jF
namespace Go.Proofs.YtiaamlaibfpdgaaDoor
abbrev kplc19 : List (Nat × Go.Dl.Mode) := [(0, .light), (1, .light), (2, .step), (3, .light), (4, .light), (5, .light), (6, .light), (7, .light), (8, .light)]
abbrev kplc20 : List (Nat × Go.Dl.Mode) := [(0, .light), (1, .light), (2, .light), (3, .light), (4, .step), (5, .light), (6, .light)]
abbrev kplc21 : List (Nat × Go.Dl.Mode) := [(0, .light), (1, .light), (2, .light), (3, .light), (4, .light), (5, .light), (6, .light), (7, .light), (8, .step), (9, .light), (10, .light), (11, .light), (12, .light), (13, .light), (14, .light), (15, .light), (16, .light), (17, .light), (18, .step), (19, .step), (20, .light), (21, .light)]
end Go.Proofs.YtiaamlaibfpdgaaDoor
namespace Go.Proofs.YtiaamlaibfpdgaaDoor
open Go.Dl
open Go.Dl renaming dw_seq → kA, dw_block → kB, dw_reg → kC, dw_skip → kD, dw_exit → kE, dw_ret → kF, dw_cond → kG, guardC_f → kH, guardC_t → kI, dw_drw → kJ, dw_weaken → kK, sub_kn → kL, sub_ml → kM
open Go.Dl.CallC renaming mk → kN, light → kO
open Go.Dl.LeL renaming of_eq → kP
attribute [local irreducible] DW DCalls ECalls wk IW

theorem midF_of {e : Ent} (he : MidE e) : MidF e := ⟨he.alts, fun a ha => by
  rcases List.mem_cons.1 ha with rfl | h
  · exact he.form
  · exact he.alt a h⟩

set_option maxRecDepth 20000 in
set_option maxHeartbeats 8000000 in
theorem lawForms (e : Ent) (a : List Int) (he : MidE e) : DCalls Tryd.prog 6 [.agg e.row, dv (.sl 1 (ints a))] (dv (lb true)) := by
  have hmax : maxLen = 9223372036854775807 := rfl
  have hs := some_D twoG e he (by decide)
  have h0 := two_D
  have hc := copy_D e he
  have h1 := formsL_D e he.alts
  have h2 := rFormsL_D e he.alts
  have h3 := has_D e a (midF_of he)
  have h4 := rHas_D e a (midF_of he)
  simp only [Ent.row, invRow] at hs hc h0 h1 h2 h3 h4
  refine dcalls (N := 69) (rs := [.tmp 4]) (by kernel_rfl) Tryd.func6 rfl rfl rfl (by simp) ?_
  cases t1 : someB twoG e
  · rw [t1] at hs
    (repeat' (first | refine kA ?_ | refine kB ?_ | ((first | (refine kC (N := 69) rfl (by kernel_rfl) ?_) | (apply kJ (id := 1) (N := 69) kplc19; kernel_rfl; rfl; kernel_rfl; (repeat (first | exact Picks.nil | (apply Picks.cons; rfl)))) | (apply kJ (id := 3) (N := 69) kplc20; kernel_rfl; rfl; kernel_rfl; (repeat (first | exact Picks.nil | (apply Picks.cons; rfl)))) | (apply kJ (id := 9) (N := 69) kplc21; kernel_rfl; rfl; kernel_rfl; (repeat (first | exact Picks.nil | (apply Picks.cons; rfl)))) | refine kD ?_ | refine kE ?_ | (refine kN (h0) (kP rfl) ?_) | (refine kO (h0) (kP rfl) ?_) | (refine kN (hs) (kP rfl) ?_) | (refine kO (hs) (kP rfl) ?_) | (refine kN (awake_D) (kP rfl) ?_) | (refine kO (awake_D) (kP rfl) ?_) | refine kF ?_); simp (decide := true) only [go_sem, reduceIte, reduceCtorEq, jA, jB, jC, jD, jE, jF, Ent.row, invRow]) | (apply kG; (simp (decide := true) only [go_sem, reduceIte, reduceCtorEq, jA, jB, jC, jD, jE, jF, Ent.row, invRow]; rfl); all_goals (intro hcnd; first | (exact absurd hcnd (by decide)) | skip)) | ((first | refine kH ?_ ?_ | refine kI ?_ ?_) <;> (intro hcnd; simp (decide := true) only [go_sem, reduceIte, reduceCtorEq, jA, jB, jC, jD, jE, jF, hcnd, Ent.row, invRow]))))
  rw [t1] at hs
  rcases Bool.eq_false_or_eq_true (decide ((100 : Int) < (a.length : Int))) with t2 | t2
  · (repeat' (first | refine kA ?_ | refine kB ?_ | ((first | (refine kC (N := 69) rfl (by kernel_rfl) ?_) | (apply kJ (id := 1) (N := 69) kplc19; kernel_rfl; rfl; kernel_rfl; (repeat (first | exact Picks.nil | (apply Picks.cons; rfl)))) | (apply kJ (id := 3) (N := 69) kplc20; kernel_rfl; rfl; kernel_rfl; (repeat (first | exact Picks.nil | (apply Picks.cons; rfl)))) | (apply kJ (id := 9) (N := 69) kplc21; kernel_rfl; rfl; kernel_rfl; (repeat (first | exact Picks.nil | (apply Picks.cons; rfl)))) | refine kD ?_ | refine kE ?_ | (refine kN (h0) (kP rfl) ?_) | (refine kO (h0) (kP rfl) ?_) | (refine kN (hs) (kP rfl) ?_) | (refine kO (hs) (kP rfl) ?_) | (refine kN (awake_D) (kP rfl) ?_) | (refine kO (awake_D) (kP rfl) ?_) | refine kF ?_); simp (decide := true) only [go_sem, reduceIte, reduceCtorEq, jA, jB, jC, jD, jE, jF, t2, Ent.row, invRow]) | (apply kG; (simp (decide := true) only [go_sem, reduceIte, reduceCtorEq, jA, jB, jC, jD, jE, jF, t2, Ent.row, invRow]; rfl); all_goals (intro hcnd; first | (exact absurd hcnd (by decide)) | skip)) | ((first | refine kH ?_ ?_ | refine kI ?_ ?_) <;> (intro hcnd; simp (decide := true) only [go_sem, reduceIte, reduceCtorEq, jA, jB, jC, jD, jE, jF, hcnd, t2, Ent.row, invRow]))))
  have ha : a.length ≤ 100 := by have := of_decide_eq_false t2; omega
  have r1 : (a.length * 8 ≤ 140737488355328) = True := eq_true (by omega)
  have hll : (((formsL e).length : Int) != ((formsL e).length : Int)) = false := by simp
  (repeat' (first | refine kA ?_ | refine kB ?_ | ((first | (refine kC (N := 69) rfl (by kernel_rfl) ?_) | (apply kJ (id := 1) (N := 69) kplc19; kernel_rfl; rfl; kernel_rfl; (repeat (first | exact Picks.nil | (apply Picks.cons; rfl)))) | (apply kJ (id := 3) (N := 69) kplc20; kernel_rfl; rfl; kernel_rfl; (repeat (first | exact Picks.nil | (apply Picks.cons; rfl)))) | (apply kJ (id := 9) (N := 69) kplc21; kernel_rfl; rfl; kernel_rfl; (repeat (first | exact Picks.nil | (apply Picks.cons; rfl)))) | refine kD ?_ | refine kE ?_ | (refine kN (h0) (kP rfl) ?_) | (refine kO (h0) (kP rfl) ?_) | (refine kN (hs) (kP rfl) ?_) | (refine kO (hs) (kP rfl) ?_) | (refine kN (hc) (kP rfl) ?_) | (refine kO (hc) (kP rfl) ?_) | (refine kN (h1) (kP rfl) ?_) | (refine kO (h1) (kP rfl) ?_) | (refine kN (h2) (kP rfl) ?_) | (refine kO (h2) (kP rfl) ?_)); simp (decide := true) only [go_sem, reduceIte, reduceCtorEq, jA, jB, jC, jD, jE, jF, t2, Ent.row, invRow]) | (apply kG; (simp (decide := true) only [go_sem, reduceIte, reduceCtorEq, jA, jB, jC, jD, jE, jF, t2, Ent.row, invRow]; rfl); all_goals (intro hcnd; first | (exact absurd hcnd (by decide)) | skip)) | ((first | refine kH ?_ ?_ | refine kI ?_ ?_) <;> (intro hcnd; simp (decide := true) only [go_sem, reduceIte, reduceCtorEq, jA, jB, jC, jD, jE, jF, hcnd, t2, Ent.row, invRow]))))
  refine dw_afterN (fun _ : Unit => kn 69 [(2, .one (.bx 2 8 0 0)), (5, dv (.sl 1 ((formsL e).map altC))), (6, dv (.sl 1 ((formsL e).map altC))), (39, dv (lb false))] (ml [(2, [e.row])])) (fun _ => True) ?_ ?_
  · apply dw_treeM (id := 4) (N := 69) [] [[], [0], [], [2], [1, 3], [4], [5], [6, 5, 5], [5], [5], [8, 9, 7, 5], [7, 10, 10, 5], [5], [5], [12, 13, 11, 5], [11, 14, 5], [5, 15]] (.bl 0 (.bl 2 (.dia 1 3 (.run [4, 5] (.bl 9 (.bl 13 (.thr 6 (.thr 7 (.two 8 (.two 10 (.dia 11 12 (.run [14, 15, 16] .leaf)) 12 (.run [10, 11, 14, 15, 16] .leaf)) 12 (.run [8, 10, 11, 14, 15, 16] .leaf)) 8 (.two 7 (.two 10 (.dia 11 12 (.run [14, 15, 16] .leaf)) 12 (.run [10, 11, 14, 15, 16] .leaf)) 12 (.run [7, 10, 11, 14, 15, 16] .leaf)) 12 (.dia 7 8 (.run [10, 11, 14, 15, 16] .leaf))) 8 (.two 6 (.two 7 (.two 10 (.dia 11 12 (.run [14, 15, 16] .leaf)) 12 (.run [10, 11, 14, 15, 16] .leaf)) 12 (.run [7, 10, 11, 14, 15, 16] .leaf)) 12 (.run [6, 7, 10, 11, 14, 15, 16] .leaf)) 12 (.two 6 (.dia 7 8 (.run [10, 11, 14, 15, 16] .leaf)) 8 (.run [6, 7, 10, 11, 14, 15, 16] .leaf))))))))); kernel_rfl; rfl; kernel_rfl; kernel_rfl
    simp (decide := true) only [go_sem, reduceIte, reduceCtorEq, jA, jB, jC, jD, jE, jF, hll, r1]
    (repeat' (first | apply And.intro | (refine kN (hc) (kP rfl) ?_; simp (decide := true) only [go_sem, reduceIte, reduceCtorEq, jA, jB, jC, jD, jE, jF, r1, bb, List.length_map]) | (refine kO (hc) (kP rfl) ?_; simp (decide := true) only [go_sem, reduceIte, reduceCtorEq, jA, jB, jC, jD, jE, jF, r1, bb, List.length_map]) | (refine kN (h3) (kP rfl) ?_; simp (decide := true) only [go_sem, reduceIte, reduceCtorEq, jA, jB, jC, jD, jE, jF, r1, bb, List.length_map]) | (refine kO (h3) (kP rfl) ?_; simp (decide := true) only [go_sem, reduceIte, reduceCtorEq, jA, jB, jC, jD, jE, jF, r1, bb, List.length_map]) | (refine kN (h4) (kP rfl) ?_; simp (decide := true) only [go_sem, reduceIte, reduceCtorEq, jA, jB, jC, jD, jE, jF, r1, bb, List.length_map]) | (refine kO (h4) (kP rfl) ?_; simp (decide := true) only [go_sem, reduceIte, reduceCtorEq, jA, jB, jC, jD, jE, jF, r1, bb, List.length_map])))
    all_goals exact ⟨(), kM rfl (by simp (decide := true) only [go_sem, reduceIte, reduceCtorEq, jA, jB, jC, jD, jE, jF]) (by simp (decide := true) only [go_sem, reduceIte, reduceCtorEq, jA, jB, jC, jD, jE, jF, Ent.row])⟩
  rintro _ _
  (repeat' (first | refine kA ?_ | refine kB ?_ | ((first | (refine kC (N := 69) rfl (by kernel_rfl) ?_) | (apply kJ (id := 1) (N := 69) kplc19; kernel_rfl; rfl; kernel_rfl; (repeat (first | exact Picks.nil | (apply Picks.cons; rfl)))) | (apply kJ (id := 3) (N := 69) kplc20; kernel_rfl; rfl; kernel_rfl; (repeat (first | exact Picks.nil | (apply Picks.cons; rfl)))) | (apply kJ (id := 9) (N := 69) kplc21; kernel_rfl; rfl; kernel_rfl; (repeat (first | exact Picks.nil | (apply Picks.cons; rfl)))) | refine kD ?_ | refine kE ?_); simp (decide := true) only [go_sem, reduceIte, reduceCtorEq, jA, jB, jC, jD, jE, jF]) | (apply kG; (simp (decide := true) only [go_sem, reduceIte, reduceCtorEq, jA, jB, jC, jD, jE, jF]; rfl); all_goals (intro hcnd; first | (exact absurd hcnd (by decide)) | skip)) | ((first | refine kH ?_ ?_ | refine kI ?_ ?_) <;> (intro hcnd; simp (decide := true) only [go_sem, reduceIte, reduceCtorEq, jA, jB, jC, jD, jE, jF, hcnd]))))
  refine dw_rng0 (formsL e) (fun k => kn 69 [(2, .one (.bx 2 8 0 0)), (5, dv (.sl 1 ((formsL e).map altC))), (6, dv (.sl 1 ((formsL e).map altC))), (7, dv (li k))] (ml [(2, [e.row])])) (by simp [formsL]; have := he.alts; omega) (kM rfl (by simp (decide := true) only [go_sem, reduceIte, reduceCtorEq, jA, jB, jC, jD, jE, jF]) (by simp (decide := true) only [go_sem, reduceIte, reduceCtorEq, jA, jB, jC, jD, jE, jF, Ent.row])) ?_ ?_
  · intro k b hb hk hm htk hlt hw
    have hbl := (midF_of he).all b hm
    have r2 : (b.length * 8 ≤ 140737488355328) = True := eq_true (by omega)
    have h5 := sameI_D b b (by omega)
    rw [decide_eq_true rfl] at h5
    have h6 := has_D e b (midF_of he)
    rw [show hasA (formsL e) b = true from List.any_eq_true.2 ⟨b, hm, by simp⟩] at h6
    simp only [Ent.row] at h6
    (repeat' (first | refine kA ?_ | refine kB ?_ | ((first | (refine kC (N := 69) rfl (by kernel_rfl) ?_) | (apply kJ (id := 1) (N := 69) kplc19; kernel_rfl; rfl; kernel_rfl; (repeat (first | exact Picks.nil | (apply Picks.cons; rfl)))) | (apply kJ (id := 3) (N := 69) kplc20; kernel_rfl; rfl; kernel_rfl; (repeat (first | exact Picks.nil | (apply Picks.cons; rfl)))) | (apply kJ (id := 9) (N := 69) kplc21; kernel_rfl; rfl; kernel_rfl; (repeat (first | exact Picks.nil | (apply Picks.cons; rfl)))) | refine kD ?_ | refine kE ?_ | (refine kN (h5) (kP rfl) ?_) | (refine kO (h5) (kP rfl) ?_) | (refine kN (hc) (kP rfl) ?_) | (refine kO (hc) (kP rfl) ?_) | (refine kN (h6) (kP rfl) ?_) | (refine kO (h6) (kP rfl) ?_) | refine kF ?_); simp (decide := true) only [go_sem, reduceIte, reduceCtorEq, jA, jB, jC, jD, jE, jF, hlt, hw, hb, r2, altC, Ent.row]) | (apply kG; (simp (decide := true) only [go_sem, reduceIte, reduceCtorEq, jA, jB, jC, jD, jE, jF, hlt, hw, hb, r2, altC, Ent.row]; rfl); all_goals (intro hcnd; first | (exact absurd hcnd (by decide)) | skip)) | ((first | refine kH ?_ ?_ | refine kI ?_ ?_) <;> (intro hcnd; simp (decide := true) only [go_sem, reduceIte, reduceCtorEq, jA, jB, jC, jD, jE, jF, hcnd, hlt, hw, hb, r2, altC, Ent.row]))))
    exact kM rfl (by simp (decide := true) only [go_sem, reduceIte, reduceCtorEq, jA, jB, jC, jD, jE, jF]) (by simp (decide := true) only [go_sem, reduceIte, reduceCtorEq, jA, jB, jC, jD, jE, jF, Ent.row])
  · intro hlt
    (repeat' (first | refine kA ?_ | refine kB ?_ | ((first | (refine kC (N := 69) rfl (by kernel_rfl) ?_) | (apply kJ (id := 1) (N := 69) kplc19; kernel_rfl; rfl; kernel_rfl; (repeat (first | exact Picks.nil | (apply Picks.cons; rfl)))) | (apply kJ (id := 3) (N := 69) kplc20; kernel_rfl; rfl; kernel_rfl; (repeat (first | exact Picks.nil | (apply Picks.cons; rfl)))) | (apply kJ (id := 9) (N := 69) kplc21; kernel_rfl; rfl; kernel_rfl; (repeat (first | exact Picks.nil | (apply Picks.cons; rfl)))) | refine kD ?_ | refine kE ?_ | (refine kN (awake_D) (kP rfl) ?_) | (refine kO (awake_D) (kP rfl) ?_) | refine kF ?_); simp (decide := true) only [go_sem, reduceIte, reduceCtorEq, jA, jB, jC, jD, jE, jF, hlt]) | (apply kG; (simp (decide := true) only [go_sem, reduceIte, reduceCtorEq, jA, jB, jC, jD, jE, jF, hlt]; rfl); all_goals (intro hcnd; first | (exact absurd hcnd (by decide)) | skip)) | ((first | refine kH ?_ ?_ | refine kI ?_ ?_) <;> (intro hcnd; simp (decide := true) only [go_sem, reduceIte, reduceCtorEq, jA, jB, jC, jD, jE, jF, hcnd, hlt]))))
end Go.Proofs.YtiaamlaibfpdgaaDoor
