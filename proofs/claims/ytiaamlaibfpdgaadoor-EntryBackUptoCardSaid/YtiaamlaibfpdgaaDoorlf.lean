/- Entries: the laws (V). -/
import Derived.Test.YtiaamlaibfpdgaaDoorlb
import Derived.Test.YtiaamlaibfpdgaaDoorm5
set_option linter.all false
set_option linter.unusedVariables false
set_option linter.unusedSimpArgs false
open Nat renaming reduceEqDiff → jA, reduceAdd → jB, reduceMul → jC, reduceSub → jD, reduceLeDiff → jE, reduceBEq → jF
namespace Go.Proofs.YtiaamlaibfpdgaaDoor
abbrev kplf19 : List (Nat × Go.Dl.Mode) := [(0, .light), (1, .light), (2, .step), (3, .light), (4, .light), (5, .light), (6, .light), (7, .light), (8, .step), (9, .light), (10, .light)]
end Go.Proofs.YtiaamlaibfpdgaaDoor
namespace Go.Proofs.YtiaamlaibfpdgaaDoor
open Go.Dl
open Go.Dl renaming dw_seq → kA, dw_block → kB, dw_reg → kC, dw_skip → kD, dw_exit → kE, dw_ret → kF, dw_cond → kG, guardC_f → kH, guardC_t → kI, dw_drw → kJ, dw_weaken → kK, sub_kn → kL, sub_ml → kM
open Go.Dl.CallC renaming mk → kN, light → kO
open Go.Dl.LeL renaming of_eq → kP
attribute [local irreducible] DW DCalls ECalls wk IW

theorem att_old {e : Ent} {r : Lnk} (hs : Srt e.refs) (hr : hasR e.refs r = true) : attE e r = (e, 0) := by
  have ho : okRef r = true := hs.1 r ((has_iff _ _).1 hr)
  rw [attE, if_neg (by rw [ho]; decide), if_pos hr]
theorem att_new {e : Ent} {r : Lnk} (hr : hasR e.refs r = false) (hok : (attE e r).2 = 0) : okRef r = true ∧ attE e r = ({ e with refs := withB e.refs r }, 0) := by
  unfold attE at hok ⊢
  by_cases n1 : okRef r = false
  · rw [if_pos n1] at hok; exact absurd hok (by decide)
  rw [if_neg n1] at hok ⊢
  rw [if_neg (by rw [hr]; decide)] at hok ⊢
  by_cases n3 : 12 ≤ e.refs.length
  · rw [if_pos n3] at hok; exact absurd hok (by decide)
  exact ⟨by simpa using n1, by rw [if_neg n3]⟩
theorem att_bad {e : Ent} {r : Lnk} (hl : e.refs.length ≤ 12) (hr : hasR e.refs r = false) (hbad : (attE e r).2 ≠ 0) : ((attE e r).2 = 2 ∧ okRef r = false) ∨ ((attE e r).2 = 11 ∧ okRef r = true ∧ e.refs.length = 12) := by
  unfold attE at hbad ⊢
  by_cases n1 : okRef r = false
  · rw [if_pos n1]; exact .inl ⟨rfl, n1⟩
  rw [if_neg n1] at hbad ⊢
  rw [if_neg (by rw [hr]; decide)] at hbad ⊢
  by_cases n3 : 12 ≤ e.refs.length
  · rw [if_pos n3]; exact .inr ⟨rfl, by simpa using n1, by omega⟩
  · rw [if_neg n3] at hbad; exact absurd rfl hbad
theorem forg_att {e : Ent} {r : Lnk} (hs : Srt e.refs) (hr : hasR e.refs r = false) : forgE { e with refs := withB e.refs r } r = (e, 0) := by
  obtain ⟨h1, h2⟩ := del_with hs hr
  rw [forgE, h1, outE, if_neg (by omega)]
  simp only [Int.toNat_natCast]
  rw [h2]
theorem att_forg {e : Ent} {r : Lnk} (hs : Srt e.refs) (hl : e.refs.length ≤ 12) {k : Nat} (hk : e.refs[k]? = some r) : attE { e with refs := e.refs.take k ++ e.refs.drop (k + 1) } r = (e, 0) := by
  obtain ⟨h1, h2⟩ := with_del hs hk
  have ho : okRef r = true := hs.1 r (List.mem_of_getElem? hk)
  have hl2 := del_len hk
  rw [attE, if_neg (by rw [ho]; decide), if_neg (by show ¬ hasR (e.refs.take k ++ e.refs.drop (k + 1)) r = true; rw [h1]; decide), if_neg (by show ¬ 12 ≤ (e.refs.take k ++ e.refs.drop (k + 1)).length; omega)]
  show ({ e with refs := withB (e.refs.take k ++ e.refs.drop (k + 1)) r }, (0 : Int)) = (e, 0)
  rw [h2]

theorem hasR_snoc (l : List Lnk) (y x : Lnk) : hasR (l ++ [y]) x = (hasR l x || decide (x = y)) := by simp [hasR]
theorem okRef_tests (r : Lnk) : okRef r = (decide (1 ≤ r.kind) && (decide (r.kind ≤ 1099511627776) && (decide (1 ≤ r.tgt) && decide (r.tgt ≤ 1099511627776)))) := by
  simp only [okRef, ident]
  rw [Bool.and_assoc]

set_option maxRecDepth 20000 in
set_option maxHeartbeats 8000000 in
theorem lawBack (g : List Phon) (e : Ent) (r : Lnk) (he : MidE e) (hg : ∀ p ∈ g, p.name.size ≤ 1048576) : DCalls Tryd.prog 10 [.agg (invRow g), .agg e.row, .agg r.row] (dv (lb true)) := by
  have hmax : maxLen = 9223372036854775807 := rfl
  have hs := some_D g e he hg
  have hc := copy_D e he
  have hC := check_D g e
  have ha := attest_D e r he.refs
  have hd := forget_D e r he.refs
  have hS := same_D e e
  rw [decide_eq_true rfl] at hS
  simp only [Ent.row, invRow, Lnk.row] at hs hc hC hS
  refine dcalls (N := 142) (rs := [.tmp 6]) (by kernel_rfl) Tryd.func10 rfl rfl rfl (by simp) ?_
  cases t1 : someB g e
  · rw [t1] at hs
    (repeat' (first | refine kA ?_ | refine kB ?_ | ((first | (refine kC (N := 142) rfl (by kernel_rfl) ?_) | (apply kJ (id := 1) (N := 142) kplf19; kernel_rfl; rfl; kernel_rfl; (repeat (first | exact Picks.nil | (apply Picks.cons; rfl)))) | (apply kJ (id := 7) (N := 142) kpm5; kernel_rfl; rfl; kernel_rfl; (repeat (first | exact Picks.nil | (apply Picks.cons; rfl)))) | refine kD ?_ | refine kE ?_ | (refine kN (hs) (kP rfl) ?_) | (refine kO (hs) (kP rfl) ?_) | (refine kN (awake_D) (kP rfl) ?_) | (refine kO (awake_D) (kP rfl) ?_) | refine kF ?_); simp (decide := true) only [go_sem, reduceIte, reduceCtorEq, jA, jB, jC, jD, jE, jF, Ent.row, invRow, Lnk.row]) | (apply kG; (simp (decide := true) only [go_sem, reduceIte, reduceCtorEq, jA, jB, jC, jD, jE, jF, Ent.row, invRow, Lnk.row]; rfl); all_goals (intro hcnd; first | (exact absurd hcnd (by decide)) | skip)) | ((first | refine kH ?_ ?_ | refine kI ?_ ?_) <;> (intro hcnd; simp (decide := true) only [go_sem, reduceIte, reduceCtorEq, jA, jB, jC, jD, jE, jF, hcnd, Ent.row, invRow, Lnk.row]))))
  rw [t1] at hs
  cases t2 : checkE g e != 0
  rotate_left
  · (repeat' (first | refine kA ?_ | refine kB ?_ | ((first | (refine kC (N := 142) rfl (by kernel_rfl) ?_) | (apply kJ (id := 1) (N := 142) kplf19; kernel_rfl; rfl; kernel_rfl; (repeat (first | exact Picks.nil | (apply Picks.cons; rfl)))) | (apply kJ (id := 7) (N := 142) kpm5; kernel_rfl; rfl; kernel_rfl; (repeat (first | exact Picks.nil | (apply Picks.cons; rfl)))) | refine kD ?_ | refine kE ?_ | (refine kN (hs) (kP rfl) ?_) | (refine kO (hs) (kP rfl) ?_) | (refine kN (hc) (kP rfl) ?_) | (refine kO (hc) (kP rfl) ?_) | (refine kN (hC) (kP rfl) ?_) | (refine kO (hC) (kP rfl) ?_) | (refine kN (awake_D) (kP rfl) ?_) | (refine kO (awake_D) (kP rfl) ?_) | refine kF ?_); simp (decide := true) only [go_sem, reduceIte, reduceCtorEq, jA, jB, jC, jD, jE, jF, t2, Ent.row, invRow, Lnk.row]) | (apply kG; (simp (decide := true) only [go_sem, reduceIte, reduceCtorEq, jA, jB, jC, jD, jE, jF, t2, Ent.row, invRow, Lnk.row]; rfl); all_goals (intro hcnd; first | (exact absurd hcnd (by decide)) | skip)) | ((first | refine kH ?_ ?_ | refine kI ?_ ?_) <;> (intro hcnd; simp (decide := true) only [go_sem, reduceIte, reduceCtorEq, jA, jB, jC, jD, jE, jF, hcnd, t2, Ent.row, invRow, Lnk.row]))))
  have hz : checkE g e = 0 := by simpa using t2
  obtain ⟨p0, p1, p2, p3, p4⟩ := check_parts hz
  obtain ⟨pl, ps⟩ := (refsE_iff e.refs).1 p4
  (repeat' (first | refine kA ?_ | refine kB ?_ | ((first | (refine kC (N := 142) rfl (by kernel_rfl) ?_) | (apply kJ (id := 1) (N := 142) kplf19; kernel_rfl; rfl; kernel_rfl; (repeat (first | exact Picks.nil | (apply Picks.cons; rfl)))) | (apply kJ (id := 7) (N := 142) kpm5; kernel_rfl; rfl; kernel_rfl; (repeat (first | exact Picks.nil | (apply Picks.cons; rfl)))) | refine kD ?_ | refine kE ?_ | (refine kN (hs) (kP rfl) ?_) | (refine kO (hs) (kP rfl) ?_) | (refine kN (hc) (kP rfl) ?_) | (refine kO (hc) (kP rfl) ?_) | (refine kN (hC) (kP rfl) ?_) | (refine kO (hC) (kP rfl) ?_)); simp (decide := true) only [go_sem, reduceIte, reduceCtorEq, jA, jB, jC, jD, jE, jF, t2, Ent.row, invRow, Lnk.row]) | (apply kG; (simp (decide := true) only [go_sem, reduceIte, reduceCtorEq, jA, jB, jC, jD, jE, jF, t2, Ent.row, invRow, Lnk.row]; rfl); all_goals (intro hcnd; first | (exact absurd hcnd (by decide)) | skip)) | ((first | refine kH ?_ ?_ | refine kI ?_ ?_) <;> (intro hcnd; simp (decide := true) only [go_sem, reduceIte, reduceCtorEq, jA, jB, jC, jD, jE, jF, hcnd, t2, Ent.row, invRow, Lnk.row]))))
  refine dw_after (fun _ : Unit => kn 142 [(3, .one (.bx 3 1 0 0)), (4, .one (.bx 4 8 0 0)), (5, .one (.bx 5 2 0 0)), (7, dv (lb (hasR e.refs r)))] (ml [(3, [invRow g]), (4, [e.row]), (5, [r.row])])) (fun _ => True) ?_ ?_
  · refine dw_rng0 e.refs (fun k => kn 142 [(3, .one (.bx 3 1 0 0)), (4, .one (.bx 4 8 0 0)), (5, .one (.bx 5 2 0 0)), (7, dv (lb (hasR (e.refs.take k) r))), (8, dv (li k))] (ml [(3, [invRow g]), (4, [e.row]), (5, [r.row])])) (by omega) (kM rfl (by simp (decide := true) only [go_sem, reduceIte, reduceCtorEq, jA, jB, jC, jD, jE, jF, List.take_zero, hasR, List.any_nil]) (by simp (decide := true) only [go_sem, reduceIte, reduceCtorEq, jA, jB, jC, jD, jE, jF, Ent.row, invRow, Lnk.row])) ?_ ?_
    · intro k y hy hk hm htk hlt hw
      have hst : hasR (e.refs.take (k + 1)) r = (hasR (e.refs.take k) r || decide (r = y)) := by rw [htk, hasR_snoc]
      cases t3 : hasR (e.refs.take k) r
      · rw [t3, Bool.false_or, dec_symm] at hst
        have e1 := lnk_eq y r
        (repeat' (first | refine kA ?_ | refine kB ?_ | ((first | (refine kC (N := 142) rfl (by kernel_rfl) ?_) | (apply kJ (id := 1) (N := 142) kplf19; kernel_rfl; rfl; kernel_rfl; (repeat (first | exact Picks.nil | (apply Picks.cons; rfl)))) | (apply kJ (id := 7) (N := 142) kpm5; kernel_rfl; rfl; kernel_rfl; (repeat (first | exact Picks.nil | (apply Picks.cons; rfl)))) | refine kD ?_ | refine kE ?_ | refine kF ?_); simp (decide := true) only [go_sem, reduceIte, reduceCtorEq, jA, jB, jC, jD, jE, jF, hlt, hw, hy, t3, e1, Ent.row, Lnk.row, Lnk.enc, Int.toNat_natCast]) | (apply kG; (simp (decide := true) only [go_sem, reduceIte, reduceCtorEq, jA, jB, jC, jD, jE, jF, hlt, hw, hy, t3, e1, Ent.row, Lnk.row, Lnk.enc, Int.toNat_natCast]; rfl); all_goals (intro hcnd; first | (exact absurd hcnd (by decide)) | skip)) | ((first | refine kH ?_ ?_ | refine kI ?_ ?_) <;> (intro hcnd; simp (decide := true) only [go_sem, reduceIte, reduceCtorEq, jA, jB, jC, jD, jE, jF, hcnd, hlt, hw, hy, t3, e1, Ent.row, Lnk.row, Lnk.enc, Int.toNat_natCast]))))
        exact kM rfl (by simp (decide := true) only [go_sem, reduceIte, reduceCtorEq, jA, jB, jC, jD, jE, jF, hst]) (by simp (decide := true) only [go_sem, reduceIte, reduceCtorEq, jA, jB, jC, jD, jE, jF, Ent.row, invRow, Lnk.row])
      · rw [t3, Bool.true_or] at hst
        (repeat' (first | refine kA ?_ | refine kB ?_ | ((first | (refine kC (N := 142) rfl (by kernel_rfl) ?_) | (apply kJ (id := 1) (N := 142) kplf19; kernel_rfl; rfl; kernel_rfl; (repeat (first | exact Picks.nil | (apply Picks.cons; rfl)))) | (apply kJ (id := 7) (N := 142) kpm5; kernel_rfl; rfl; kernel_rfl; (repeat (first | exact Picks.nil | (apply Picks.cons; rfl)))) | refine kD ?_ | refine kE ?_ | refine kF ?_); simp (decide := true) only [go_sem, reduceIte, reduceCtorEq, jA, jB, jC, jD, jE, jF, hlt, hw, hy, t3, Ent.row, Lnk.row, Lnk.enc, Int.toNat_natCast]) | (apply kG; (simp (decide := true) only [go_sem, reduceIte, reduceCtorEq, jA, jB, jC, jD, jE, jF, hlt, hw, hy, t3, Ent.row, Lnk.row, Lnk.enc, Int.toNat_natCast]; rfl); all_goals (intro hcnd; first | (exact absurd hcnd (by decide)) | skip)) | ((first | refine kH ?_ ?_ | refine kI ?_ ?_) <;> (intro hcnd; simp (decide := true) only [go_sem, reduceIte, reduceCtorEq, jA, jB, jC, jD, jE, jF, hcnd, hlt, hw, hy, t3, Ent.row, Lnk.row, Lnk.enc, Int.toNat_natCast]))))
        exact kM rfl (by simp (decide := true) only [go_sem, reduceIte, reduceCtorEq, jA, jB, jC, jD, jE, jF, hst]) (by simp (decide := true) only [go_sem, reduceIte, reduceCtorEq, jA, jB, jC, jD, jE, jF, Ent.row, invRow, Lnk.row])
    · intro hlt
      rw [List.take_length]
      (repeat' (first | refine kA ?_ | refine kB ?_ | ((first | (refine kC (N := 142) rfl (by kernel_rfl) ?_) | (apply kJ (id := 1) (N := 142) kplf19; kernel_rfl; rfl; kernel_rfl; (repeat (first | exact Picks.nil | (apply Picks.cons; rfl)))) | (apply kJ (id := 7) (N := 142) kpm5; kernel_rfl; rfl; kernel_rfl; (repeat (first | exact Picks.nil | (apply Picks.cons; rfl)))) | refine kD ?_ | refine kE ?_); simp (decide := true) only [go_sem, reduceIte, reduceCtorEq, jA, jB, jC, jD, jE, jF, hlt, Ent.row]) | (apply kG; (simp (decide := true) only [go_sem, reduceIte, reduceCtorEq, jA, jB, jC, jD, jE, jF, hlt, Ent.row]; rfl); all_goals (intro hcnd; first | (exact absurd hcnd (by decide)) | skip)) | ((first | refine kH ?_ ?_ | refine kI ?_ ?_) <;> (intro hcnd; simp (decide := true) only [go_sem, reduceIte, reduceCtorEq, jA, jB, jC, jD, jE, jF, hcnd, hlt, Ent.row]))))
      exact ⟨(), kM rfl (by simp (decide := true) only [go_sem, reduceIte, reduceCtorEq, jA, jB, jC, jD, jE, jF]) (by simp (decide := true) only [go_sem, reduceIte, reduceCtorEq, jA, jB, jC, jD, jE, jF, Ent.row, invRow, Lnk.row])⟩
  rintro _ _
  generalize ha1 : attE e r = pa at ha
  generalize hd1 : forgE e r = pd at hd
  obtain ⟨f, x⟩ := pa
  obtain ⟨f2, y⟩ := pd
  simp only [Ent.row, Lnk.row] at ha hd
  (repeat' (first | refine kA ?_ | refine kB ?_ | ((first | (refine kC (N := 142) rfl (by kernel_rfl) ?_) | (apply kJ (id := 1) (N := 142) kplf19; kernel_rfl; rfl; kernel_rfl; (repeat (first | exact Picks.nil | (apply Picks.cons; rfl)))) | (apply kJ (id := 7) (N := 142) kpm5; kernel_rfl; rfl; kernel_rfl; (repeat (first | exact Picks.nil | (apply Picks.cons; rfl)))) | refine kD ?_ | refine kE ?_); simp (decide := true) only [go_sem, reduceIte, reduceCtorEq, jA, jB, jC, jD, jE, jF, Ent.row, invRow, Lnk.row]) | (apply kG; (simp (decide := true) only [go_sem, reduceIte, reduceCtorEq, jA, jB, jC, jD, jE, jF, Ent.row, invRow, Lnk.row]; rfl); all_goals (intro hcnd; first | (exact absurd hcnd (by decide)) | skip)) | ((first | refine kH ?_ ?_ | refine kI ?_ ?_) <;> (intro hcnd; simp (decide := true) only [go_sem, reduceIte, reduceCtorEq, jA, jB, jC, jD, jE, jF, hcnd, Ent.row, invRow, Lnk.row]))))
  refine dw_afterN (fun _ : Unit => kn 142 [(4, .one (.bx 4 8 0 0)), (5, .one (.bx 5 2 0 0)), (7, dv (lb (hasR e.refs r))), (9, .one (.bx 9 8 0 0)), (10, dv (li x))] (ml [(4, [e.row]), (5, [r.row]), (9, [f.row])])) (fun _ => True) ?_ ?_
  · apply dw_treeM (id := 8) (N := 142) [] [[], [0], [], [1, 2, 1], [3], [4], [4], [], [7, 5, 3, 0, 1, 2, 3, 4, 5, 7], [6, 8, 0, 1, 2, 3, 4, 5, 6, 7, 8]] (.thr 0 (.thr 1 (.two 2 (.two 3 (.bl 4 (.ex 5 (.ex 6 (.run [7, 8, 9] .leaf)))) 7 (.run [3, 4] (.ex 5 (.ex 6 (.run [8, 9] .leaf))))) 7 (.run [2, 3, 4] (.ex 5 (.ex 6 (.run [8, 9] .leaf))))) 2 (.two 1 (.two 3 (.bl 4 (.ex 5 (.ex 6 (.run [7, 8, 9] .leaf)))) 7 (.run [3, 4] (.ex 5 (.ex 6 (.run [8, 9] .leaf))))) 7 (.run [1, 3, 4] (.ex 5 (.ex 6 (.run [8, 9] .leaf))))) 7 (.dia 1 2 (.run [3, 4] (.ex 5 (.ex 6 (.run [8, 9] .leaf)))))) 2 (.two 0 (.two 1 (.two 3 (.bl 4 (.ex 5 (.ex 6 (.run [7, 8, 9] .leaf)))) 7 (.run [3, 4] (.ex 5 (.ex 6 (.run [8, 9] .leaf))))) 7 (.run [1, 3, 4] (.ex 5 (.ex 6 (.run [8, 9] .leaf))))) 7 (.run [0, 1, 3, 4] (.ex 5 (.ex 6 (.run [8, 9] .leaf))))) 7 (.two 0 (.dia 1 2 (.run [3, 4] (.ex 5 (.ex 6 (.run [8, 9] .leaf))))) 2 (.run [0, 1, 3, 4] (.ex 5 (.ex 6 (.run [8, 9] .leaf)))))); kernel_rfl; rfl; kernel_rfl; kernel_rfl
    simp (decide := true) only [go_sem, reduceIte, reduceCtorEq, jA, jB, jC, jD, jE, jF, Ent.row, Lnk.row]
    (repeat' (first | apply And.intro | (refine kN (hc) (kP rfl) ?_; simp (decide := true) only [go_sem, reduceIte, reduceCtorEq, jA, jB, jC, jD, jE, jF, Ent.row, Lnk.row]) | (refine kO (hc) (kP rfl) ?_; simp (decide := true) only [go_sem, reduceIte, reduceCtorEq, jA, jB, jC, jD, jE, jF, Ent.row, Lnk.row]) | (refine kN (ha) (kP rfl) ?_; simp (decide := true) only [go_sem, reduceIte, reduceCtorEq, jA, jB, jC, jD, jE, jF, Ent.row, Lnk.row]) | (refine kO (ha) (kP rfl) ?_; simp (decide := true) only [go_sem, reduceIte, reduceCtorEq, jA, jB, jC, jD, jE, jF, Ent.row, Lnk.row])))
    all_goals exact ⟨(), kM rfl (by simp (decide := true) only [go_sem, reduceIte, reduceCtorEq, jA, jB, jC, jD, jE, jF]) (by simp (decide := true) only [go_sem, reduceIte, reduceCtorEq, jA, jB, jC, jD, jE, jF, Ent.row, Lnk.row])⟩
  rintro _ _
  (repeat' (first | refine kA ?_ | refine kB ?_ | ((first | (refine kC (N := 142) rfl (by kernel_rfl) ?_) | (apply kJ (id := 1) (N := 142) kplf19; kernel_rfl; rfl; kernel_rfl; (repeat (first | exact Picks.nil | (apply Picks.cons; rfl)))) | (apply kJ (id := 7) (N := 142) kpm5; kernel_rfl; rfl; kernel_rfl; (repeat (first | exact Picks.nil | (apply Picks.cons; rfl)))) | refine kD ?_ | refine kE ?_); simp (decide := true) only [go_sem, reduceIte, reduceCtorEq, jA, jB, jC, jD, jE, jF, Ent.row, invRow, Lnk.row]) | (apply kG; (simp (decide := true) only [go_sem, reduceIte, reduceCtorEq, jA, jB, jC, jD, jE, jF, Ent.row, invRow, Lnk.row]; rfl); all_goals (intro hcnd; first | (exact absurd hcnd (by decide)) | skip)) | ((first | refine kH ?_ ?_ | refine kI ?_ ?_) <;> (intro hcnd; simp (decide := true) only [go_sem, reduceIte, reduceCtorEq, jA, jB, jC, jD, jE, jF, hcnd, Ent.row, invRow, Lnk.row]))))
  refine dw_afterN (fun _ : Unit => kn 142 [(4, .one (.bx 4 8 0 0)), (5, .one (.bx 5 2 0 0)), (7, dv (lb (hasR e.refs r))), (9, .one (.bx 9 8 0 0)), (10, dv (li x)), (11, .one (.bx 11 8 0 0)), (12, dv (li y))] (ml [(4, [e.row]), (5, [r.row]), (9, [f.row]), (11, [f2.row])])) (fun _ => True) ?_ ?_
  · apply dw_treeM (id := 9) (N := 142) [] [[], [0], [], [1, 2, 1], [3], [4], [4], [], [7, 5, 3, 0, 1, 2, 3, 4, 5, 7], [6, 8, 0, 1, 2, 3, 4, 5, 6, 7, 8]] (.thr 0 (.thr 1 (.two 2 (.two 3 (.bl 4 (.ex 5 (.ex 6 (.run [7, 8, 9] .leaf)))) 7 (.run [3, 4] (.ex 5 (.ex 6 (.run [8, 9] .leaf))))) 7 (.run [2, 3, 4] (.ex 5 (.ex 6 (.run [8, 9] .leaf))))) 2 (.two 1 (.two 3 (.bl 4 (.ex 5 (.ex 6 (.run [7, 8, 9] .leaf)))) 7 (.run [3, 4] (.ex 5 (.ex 6 (.run [8, 9] .leaf))))) 7 (.run [1, 3, 4] (.ex 5 (.ex 6 (.run [8, 9] .leaf))))) 7 (.dia 1 2 (.run [3, 4] (.ex 5 (.ex 6 (.run [8, 9] .leaf)))))) 2 (.two 0 (.two 1 (.two 3 (.bl 4 (.ex 5 (.ex 6 (.run [7, 8, 9] .leaf)))) 7 (.run [3, 4] (.ex 5 (.ex 6 (.run [8, 9] .leaf))))) 7 (.run [1, 3, 4] (.ex 5 (.ex 6 (.run [8, 9] .leaf))))) 7 (.run [0, 1, 3, 4] (.ex 5 (.ex 6 (.run [8, 9] .leaf))))) 7 (.two 0 (.dia 1 2 (.run [3, 4] (.ex 5 (.ex 6 (.run [8, 9] .leaf))))) 2 (.run [0, 1, 3, 4] (.ex 5 (.ex 6 (.run [8, 9] .leaf)))))); kernel_rfl; rfl; kernel_rfl; kernel_rfl
    simp (decide := true) only [go_sem, reduceIte, reduceCtorEq, jA, jB, jC, jD, jE, jF, Ent.row, Lnk.row]
    (repeat' (first | apply And.intro | (refine kN (hc) (kP rfl) ?_; simp (decide := true) only [go_sem, reduceIte, reduceCtorEq, jA, jB, jC, jD, jE, jF, Ent.row, Lnk.row]) | (refine kO (hc) (kP rfl) ?_; simp (decide := true) only [go_sem, reduceIte, reduceCtorEq, jA, jB, jC, jD, jE, jF, Ent.row, Lnk.row]) | (refine kN (hd) (kP rfl) ?_; simp (decide := true) only [go_sem, reduceIte, reduceCtorEq, jA, jB, jC, jD, jE, jF, Ent.row, Lnk.row]) | (refine kO (hd) (kP rfl) ?_; simp (decide := true) only [go_sem, reduceIte, reduceCtorEq, jA, jB, jC, jD, jE, jF, Ent.row, Lnk.row])))
    all_goals exact ⟨(), kM rfl (by simp (decide := true) only [go_sem, reduceIte, reduceCtorEq, jA, jB, jC, jD, jE, jF]) (by simp (decide := true) only [go_sem, reduceIte, reduceCtorEq, jA, jB, jC, jD, jE, jF, Ent.row, Lnk.row])⟩
  rintro _ _
  have h00 : ((0 : Int) != 0) = false := rfl
  have h99 : ((9 : Int) != 9) = false := rfl
  have midR : ∀ rs : List Lnk, rs.length ≤ 1048576 → MidE { e with refs := rs } := fun rs h => ⟨he.form, he.alts, he.alt, he.senses, he.links, h, he.strs⟩
  cases hR : hasR e.refs r
  · have e2 := forg_no hR
    rw [hd1] at e2
    obtain ⟨rfl, rfl⟩ := Prod.mk.inj e2
    cases hx : x != 0
    · have hx0 : x = 0 := by simpa using hx
      obtain ⟨ho, e1⟩ := att_new (e := e) (r := r) hR (by rw [ha1]; exact hx0)
      rw [ha1] at e1
      obtain ⟨rfl, rfl⟩ := Prod.mk.inj e1
      have hl : (withB e.refs r).length ≤ 1048576 := by rw [with_len]; omega
      have hc3 := copy_D _ (midR _ hl)
      have hd3 := forget_D { e with refs := withB e.refs r } r hl
      rw [forg_att ps hR] at hd3
      simp only [Ent.row, Lnk.row] at hc3 hd3
      (repeat' (first | refine kA ?_ | refine kB ?_ | ((first | (refine kC (N := 142) rfl (by kernel_rfl) ?_) | (apply kJ (id := 1) (N := 142) kplf19; kernel_rfl; rfl; kernel_rfl; (repeat (first | exact Picks.nil | (apply Picks.cons; rfl)))) | (apply kJ (id := 7) (N := 142) kpm5; kernel_rfl; rfl; kernel_rfl; (repeat (first | exact Picks.nil | (apply Picks.cons; rfl)))) | refine kD ?_ | refine kE ?_); simp (decide := true) only [go_sem, reduceIte, reduceCtorEq, jA, jB, jC, jD, jE, jF, hR, h00, h99, Ent.row, Lnk.row]) | (apply kG; (simp (decide := true) only [go_sem, reduceIte, reduceCtorEq, jA, jB, jC, jD, jE, jF, hR, h00, h99, Ent.row, Lnk.row]; rfl); all_goals (intro hcnd; first | (exact absurd hcnd (by decide)) | skip)) | ((first | refine kH ?_ ?_ | refine kI ?_ ?_) <;> (intro hcnd; simp (decide := true) only [go_sem, reduceIte, reduceCtorEq, jA, jB, jC, jD, jE, jF, hcnd, hR, h00, h99, Ent.row, Lnk.row]))))
      refine dw_afterN (fun _ : Unit => kn 142 [(4, .one (.bx 4 8 0 0)), (15, .one (.bx 15 8 0 0)), (16, dv (li 0))] (ml [(4, [e.row]), (15, [e.row])])) (fun _ => True) ?_ ?_
      · apply dw_treeM (id := 17) (N := 142) [] [[], [0], [], [1, 2, 1], [3], [4], [4], [], [7, 5, 3, 0, 1, 2, 3, 4, 5, 7], [6, 8, 0, 1, 2, 3, 4, 5, 6, 7, 8]] (.thr 0 (.thr 1 (.two 2 (.two 3 (.bl 4 (.ex 5 (.ex 6 (.run [7, 8, 9] .leaf)))) 7 (.run [3, 4] (.ex 5 (.ex 6 (.run [8, 9] .leaf))))) 7 (.run [2, 3, 4] (.ex 5 (.ex 6 (.run [8, 9] .leaf))))) 2 (.two 1 (.two 3 (.bl 4 (.ex 5 (.ex 6 (.run [7, 8, 9] .leaf)))) 7 (.run [3, 4] (.ex 5 (.ex 6 (.run [8, 9] .leaf))))) 7 (.run [1, 3, 4] (.ex 5 (.ex 6 (.run [8, 9] .leaf))))) 7 (.dia 1 2 (.run [3, 4] (.ex 5 (.ex 6 (.run [8, 9] .leaf)))))) 2 (.two 0 (.two 1 (.two 3 (.bl 4 (.ex 5 (.ex 6 (.run [7, 8, 9] .leaf)))) 7 (.run [3, 4] (.ex 5 (.ex 6 (.run [8, 9] .leaf))))) 7 (.run [1, 3, 4] (.ex 5 (.ex 6 (.run [8, 9] .leaf))))) 7 (.run [0, 1, 3, 4] (.ex 5 (.ex 6 (.run [8, 9] .leaf))))) 7 (.two 0 (.dia 1 2 (.run [3, 4] (.ex 5 (.ex 6 (.run [8, 9] .leaf))))) 2 (.run [0, 1, 3, 4] (.ex 5 (.ex 6 (.run [8, 9] .leaf)))))); kernel_rfl; rfl; kernel_rfl; kernel_rfl
        simp (decide := true) only [go_sem, reduceIte, reduceCtorEq, jA, jB, jC, jD, jE, jF, Ent.row, Lnk.row]
        (repeat' (first | apply And.intro | (refine kN (hc3) (kP rfl) ?_; simp (decide := true) only [go_sem, reduceIte, reduceCtorEq, jA, jB, jC, jD, jE, jF, Ent.row, Lnk.row]) | (refine kO (hc3) (kP rfl) ?_; simp (decide := true) only [go_sem, reduceIte, reduceCtorEq, jA, jB, jC, jD, jE, jF, Ent.row, Lnk.row]) | (refine kN (hd3) (kP rfl) ?_; simp (decide := true) only [go_sem, reduceIte, reduceCtorEq, jA, jB, jC, jD, jE, jF, Ent.row, Lnk.row]) | (refine kO (hd3) (kP rfl) ?_; simp (decide := true) only [go_sem, reduceIte, reduceCtorEq, jA, jB, jC, jD, jE, jF, Ent.row, Lnk.row])))
        all_goals exact ⟨(), kM rfl (by simp (decide := true) only [go_sem, reduceIte, reduceCtorEq, jA, jB, jC, jD, jE, jF]) (by simp (decide := true) only [go_sem, reduceIte, reduceCtorEq, jA, jB, jC, jD, jE, jF, Ent.row, Lnk.row])⟩
      rintro _ _
      (repeat' (first | refine kA ?_ | refine kB ?_ | ((first | (refine kC (N := 142) rfl (by kernel_rfl) ?_) | (apply kJ (id := 1) (N := 142) kplf19; kernel_rfl; rfl; kernel_rfl; (repeat (first | exact Picks.nil | (apply Picks.cons; rfl)))) | (apply kJ (id := 7) (N := 142) kpm5; kernel_rfl; rfl; kernel_rfl; (repeat (first | exact Picks.nil | (apply Picks.cons; rfl)))) | refine kD ?_ | refine kE ?_ | (refine kN (hS) (kP rfl) ?_) | (refine kO (hS) (kP rfl) ?_) | (refine kN (awake_D) (kP rfl) ?_) | (refine kO (awake_D) (kP rfl) ?_) | refine kF ?_); simp (decide := true) only [go_sem, reduceIte, reduceCtorEq, jA, jB, jC, jD, jE, jF, ii, Ent.row, Lnk.row]) | (apply kG; (simp (decide := true) only [go_sem, reduceIte, reduceCtorEq, jA, jB, jC, jD, jE, jF, ii, Ent.row, Lnk.row]; rfl); all_goals (intro hcnd; first | (exact absurd hcnd (by decide)) | skip)) | ((first | refine kH ?_ ?_ | refine kI ?_ ?_) <;> (intro hcnd; simp (decide := true) only [go_sem, reduceIte, reduceCtorEq, jA, jB, jC, jD, jE, jF, hcnd, ii, Ent.row, Lnk.row]))))
    · have hx0 : x ≠ 0 := by simpa using hx
      rcases att_bad (e := e) (r := r) pl hR (by rw [ha1]; exact hx0) with ⟨e1, ho⟩ | ⟨e1, ho, h12⟩
      · rw [ha1] at e1
        have e1 : x = 2 := e1
        subst e1
        have h22 : ((2 : Int) == 2) = true := rfl
        rw [okRef_tests] at ho
        cases hl : (e.refs.length : Int) == 12
        · (repeat' (first | refine kA ?_ | refine kB ?_ | ((first | (refine kC (N := 142) rfl (by kernel_rfl) ?_) | (apply kJ (id := 1) (N := 142) kplf19; kernel_rfl; rfl; kernel_rfl; (repeat (first | exact Picks.nil | (apply Picks.cons; rfl)))) | (apply kJ (id := 7) (N := 142) kpm5; kernel_rfl; rfl; kernel_rfl; (repeat (first | exact Picks.nil | (apply Picks.cons; rfl)))) | refine kD ?_ | refine kE ?_ | (refine kN (awake_D) (kP rfl) ?_) | (refine kO (awake_D) (kP rfl) ?_) | refine kF ?_); simp (decide := true) only [go_sem, reduceIte, reduceCtorEq, jA, jB, jC, jD, jE, jF, hR, hx, h99, h22, hl, Ent.row, Lnk.row]) | (apply kG; (simp (decide := true) only [go_sem, reduceIte, reduceCtorEq, jA, jB, jC, jD, jE, jF, hR, hx, h99, h22, hl, Ent.row, Lnk.row]; rfl); all_goals (intro hcnd; first | (exact absurd hcnd (by decide)) | skip)) | ((first | refine kH ?_ ?_ | refine kI ?_ ?_) <;> (intro hcnd; simp (decide := true) only [go_sem, reduceIte, reduceCtorEq, jA, jB, jC, jD, jE, jF, hcnd, hR, hx, h99, h22, hl, Ent.row, Lnk.row]))))
        cases d1 : decide (1 ≤ r.kind)
        · (repeat' (first | refine kA ?_ | refine kB ?_ | ((first | (refine kC (N := 142) rfl (by kernel_rfl) ?_) | (apply kJ (id := 1) (N := 142) kplf19; kernel_rfl; rfl; kernel_rfl; (repeat (first | exact Picks.nil | (apply Picks.cons; rfl)))) | (apply kJ (id := 7) (N := 142) kpm5; kernel_rfl; rfl; kernel_rfl; (repeat (first | exact Picks.nil | (apply Picks.cons; rfl)))) | refine kD ?_ | refine kE ?_ | (refine kN (awake_D) (kP rfl) ?_) | (refine kO (awake_D) (kP rfl) ?_) | refine kF ?_); simp (decide := true) only [go_sem, reduceIte, reduceCtorEq, jA, jB, jC, jD, jE, jF, hR, hx, h99, h22, hl, d1, Ent.row, Lnk.row]) | (apply kG; (simp (decide := true) only [go_sem, reduceIte, reduceCtorEq, jA, jB, jC, jD, jE, jF, hR, hx, h99, h22, hl, d1, Ent.row, Lnk.row]; rfl); all_goals (intro hcnd; first | (exact absurd hcnd (by decide)) | skip)) | ((first | refine kH ?_ ?_ | refine kI ?_ ?_) <;> (intro hcnd; simp (decide := true) only [go_sem, reduceIte, reduceCtorEq, jA, jB, jC, jD, jE, jF, hcnd, hR, hx, h99, h22, hl, d1, Ent.row, Lnk.row]))))
        cases d2 : decide (r.kind ≤ 1099511627776)
        · (repeat' (first | refine kA ?_ | refine kB ?_ | ((first | (refine kC (N := 142) rfl (by kernel_rfl) ?_) | (apply kJ (id := 1) (N := 142) kplf19; kernel_rfl; rfl; kernel_rfl; (repeat (first | exact Picks.nil | (apply Picks.cons; rfl)))) | (apply kJ (id := 7) (N := 142) kpm5; kernel_rfl; rfl; kernel_rfl; (repeat (first | exact Picks.nil | (apply Picks.cons; rfl)))) | refine kD ?_ | refine kE ?_ | (refine kN (awake_D) (kP rfl) ?_) | (refine kO (awake_D) (kP rfl) ?_) | refine kF ?_); simp (decide := true) only [go_sem, reduceIte, reduceCtorEq, jA, jB, jC, jD, jE, jF, hR, hx, h99, h22, hl, d1, d2, Ent.row, Lnk.row]) | (apply kG; (simp (decide := true) only [go_sem, reduceIte, reduceCtorEq, jA, jB, jC, jD, jE, jF, hR, hx, h99, h22, hl, d1, d2, Ent.row, Lnk.row]; rfl); all_goals (intro hcnd; first | (exact absurd hcnd (by decide)) | skip)) | ((first | refine kH ?_ ?_ | refine kI ?_ ?_) <;> (intro hcnd; simp (decide := true) only [go_sem, reduceIte, reduceCtorEq, jA, jB, jC, jD, jE, jF, hcnd, hR, hx, h99, h22, hl, d1, d2, Ent.row, Lnk.row]))))
        cases d3 : decide (1 ≤ r.tgt)
        · (repeat' (first | refine kA ?_ | refine kB ?_ | ((first | (refine kC (N := 142) rfl (by kernel_rfl) ?_) | (apply kJ (id := 1) (N := 142) kplf19; kernel_rfl; rfl; kernel_rfl; (repeat (first | exact Picks.nil | (apply Picks.cons; rfl)))) | (apply kJ (id := 7) (N := 142) kpm5; kernel_rfl; rfl; kernel_rfl; (repeat (first | exact Picks.nil | (apply Picks.cons; rfl)))) | refine kD ?_ | refine kE ?_ | (refine kN (awake_D) (kP rfl) ?_) | (refine kO (awake_D) (kP rfl) ?_) | refine kF ?_); simp (decide := true) only [go_sem, reduceIte, reduceCtorEq, jA, jB, jC, jD, jE, jF, hR, hx, h99, h22, hl, d1, d2, d3, Ent.row, Lnk.row]) | (apply kG; (simp (decide := true) only [go_sem, reduceIte, reduceCtorEq, jA, jB, jC, jD, jE, jF, hR, hx, h99, h22, hl, d1, d2, d3, Ent.row, Lnk.row]; rfl); all_goals (intro hcnd; first | (exact absurd hcnd (by decide)) | skip)) | ((first | refine kH ?_ ?_ | refine kI ?_ ?_) <;> (intro hcnd; simp (decide := true) only [go_sem, reduceIte, reduceCtorEq, jA, jB, jC, jD, jE, jF, hcnd, hR, hx, h99, h22, hl, d1, d2, d3, Ent.row, Lnk.row]))))
        cases d4 : decide (r.tgt ≤ 1099511627776)
        · (repeat' (first | refine kA ?_ | refine kB ?_ | ((first | (refine kC (N := 142) rfl (by kernel_rfl) ?_) | (apply kJ (id := 1) (N := 142) kplf19; kernel_rfl; rfl; kernel_rfl; (repeat (first | exact Picks.nil | (apply Picks.cons; rfl)))) | (apply kJ (id := 7) (N := 142) kpm5; kernel_rfl; rfl; kernel_rfl; (repeat (first | exact Picks.nil | (apply Picks.cons; rfl)))) | refine kD ?_ | refine kE ?_ | (refine kN (awake_D) (kP rfl) ?_) | (refine kO (awake_D) (kP rfl) ?_) | refine kF ?_); simp (decide := true) only [go_sem, reduceIte, reduceCtorEq, jA, jB, jC, jD, jE, jF, hR, hx, h99, h22, hl, d1, d2, d3, d4, Ent.row, Lnk.row]) | (apply kG; (simp (decide := true) only [go_sem, reduceIte, reduceCtorEq, jA, jB, jC, jD, jE, jF, hR, hx, h99, h22, hl, d1, d2, d3, d4, Ent.row, Lnk.row]; rfl); all_goals (intro hcnd; first | (exact absurd hcnd (by decide)) | skip)) | ((first | refine kH ?_ ?_ | refine kI ?_ ?_) <;> (intro hcnd; simp (decide := true) only [go_sem, reduceIte, reduceCtorEq, jA, jB, jC, jD, jE, jF, hcnd, hR, hx, h99, h22, hl, d1, d2, d3, d4, Ent.row, Lnk.row]))))
        rw [d1, d2, d3, d4] at ho
        exact absurd ho (by decide)
      · rw [ha1] at e1
        have e1 : x = 11 := e1
        subst e1
        have h22 : ((11 : Int) == 2) = false := rfl
        have hl : ((e.refs.length : Int) == 12) = true := by rw [h12]; rfl
        rw [okRef_tests] at ho
        simp only [Bool.and_eq_true] at ho
        obtain ⟨d1, d2, d3, d4⟩ := ho
        (repeat' (first | refine kA ?_ | refine kB ?_ | ((first | (refine kC (N := 142) rfl (by kernel_rfl) ?_) | (apply kJ (id := 1) (N := 142) kplf19; kernel_rfl; rfl; kernel_rfl; (repeat (first | exact Picks.nil | (apply Picks.cons; rfl)))) | (apply kJ (id := 7) (N := 142) kpm5; kernel_rfl; rfl; kernel_rfl; (repeat (first | exact Picks.nil | (apply Picks.cons; rfl)))) | refine kD ?_ | refine kE ?_ | (refine kN (awake_D) (kP rfl) ?_) | (refine kO (awake_D) (kP rfl) ?_) | refine kF ?_); simp (decide := true) only [go_sem, reduceIte, reduceCtorEq, jA, jB, jC, jD, jE, jF, hR, hx, h99, h22, hl, d1, d2, d3, d4, Ent.row, Lnk.row]) | (apply kG; (simp (decide := true) only [go_sem, reduceIte, reduceCtorEq, jA, jB, jC, jD, jE, jF, hR, hx, h99, h22, hl, d1, d2, d3, d4, Ent.row, Lnk.row]; rfl); all_goals (intro hcnd; first | (exact absurd hcnd (by decide)) | skip)) | ((first | refine kH ?_ ?_ | refine kI ?_ ?_) <;> (intro hcnd; simp (decide := true) only [go_sem, reduceIte, reduceCtorEq, jA, jB, jC, jD, jE, jF, hcnd, hR, hx, h99, h22, hl, d1, d2, d3, d4, Ent.row, Lnk.row]))))
  · have e1 := att_old ps hR
    rw [ha1] at e1
    obtain ⟨rfl, rfl⟩ := Prod.mk.inj e1
    obtain ⟨k, hk, e2⟩ := forg_at ps hR
    rw [hd1] at e2
    obtain ⟨rfl, rfl⟩ := Prod.mk.inj e2
    have hl : (f.refs.take k ++ f.refs.drop (k + 1)).length ≤ 1048576 := by have := del_len hk; omega
    have hc3 := copy_D _ (midR _ hl)
    have hd3 := attest_D { f with refs := f.refs.take k ++ f.refs.drop (k + 1) } r hl
    rw [att_forg ps pl hk] at hd3
    simp only [Ent.row, Lnk.row] at hc3 hd3
    (repeat' (first | refine kA ?_ | refine kB ?_ | ((first | (refine kC (N := 142) rfl (by kernel_rfl) ?_) | (apply kJ (id := 1) (N := 142) kplf19; kernel_rfl; rfl; kernel_rfl; (repeat (first | exact Picks.nil | (apply Picks.cons; rfl)))) | (apply kJ (id := 7) (N := 142) kpm5; kernel_rfl; rfl; kernel_rfl; (repeat (first | exact Picks.nil | (apply Picks.cons; rfl)))) | refine kD ?_ | refine kE ?_); simp (decide := true) only [go_sem, reduceIte, reduceCtorEq, jA, jB, jC, jD, jE, jF, hR, h00, Ent.row, Lnk.row]) | (apply kG; (simp (decide := true) only [go_sem, reduceIte, reduceCtorEq, jA, jB, jC, jD, jE, jF, hR, h00, Ent.row, Lnk.row]; rfl); all_goals (intro hcnd; first | (exact absurd hcnd (by decide)) | skip)) | ((first | refine kH ?_ ?_ | refine kI ?_ ?_) <;> (intro hcnd; simp (decide := true) only [go_sem, reduceIte, reduceCtorEq, jA, jB, jC, jD, jE, jF, hcnd, hR, h00, Ent.row, Lnk.row]))))
    refine dw_afterN (fun _ : Unit => kn 142 [(4, .one (.bx 4 8 0 0)), (9, .one (.bx 9 8 0 0)), (10, dv (li 0)), (12, dv (li 0)), (13, .one (.bx 13 8 0 0)), (14, dv (li 0))] (ml [(4, [f.row]), (9, [f.row]), (13, [f.row])])) (fun _ => True) ?_ ?_
    · apply dw_treeM (id := 11) (N := 142) [] [[], [0], [], [1, 2, 1], [3], [4], [4], [], [7, 5, 3, 0, 1, 2, 3, 4, 5, 7], [6, 8, 0, 1, 2, 3, 4, 5, 6, 7, 8]] (.thr 0 (.thr 1 (.two 2 (.two 3 (.bl 4 (.ex 5 (.ex 6 (.run [7, 8, 9] .leaf)))) 7 (.run [3, 4] (.ex 5 (.ex 6 (.run [8, 9] .leaf))))) 7 (.run [2, 3, 4] (.ex 5 (.ex 6 (.run [8, 9] .leaf))))) 2 (.two 1 (.two 3 (.bl 4 (.ex 5 (.ex 6 (.run [7, 8, 9] .leaf)))) 7 (.run [3, 4] (.ex 5 (.ex 6 (.run [8, 9] .leaf))))) 7 (.run [1, 3, 4] (.ex 5 (.ex 6 (.run [8, 9] .leaf))))) 7 (.dia 1 2 (.run [3, 4] (.ex 5 (.ex 6 (.run [8, 9] .leaf)))))) 2 (.two 0 (.two 1 (.two 3 (.bl 4 (.ex 5 (.ex 6 (.run [7, 8, 9] .leaf)))) 7 (.run [3, 4] (.ex 5 (.ex 6 (.run [8, 9] .leaf))))) 7 (.run [1, 3, 4] (.ex 5 (.ex 6 (.run [8, 9] .leaf))))) 7 (.run [0, 1, 3, 4] (.ex 5 (.ex 6 (.run [8, 9] .leaf))))) 7 (.two 0 (.dia 1 2 (.run [3, 4] (.ex 5 (.ex 6 (.run [8, 9] .leaf))))) 2 (.run [0, 1, 3, 4] (.ex 5 (.ex 6 (.run [8, 9] .leaf)))))); kernel_rfl; rfl; kernel_rfl; kernel_rfl
      simp (decide := true) only [go_sem, reduceIte, reduceCtorEq, jA, jB, jC, jD, jE, jF, Ent.row, Lnk.row]
      (repeat' (first | apply And.intro | (refine kN (hc3) (kP rfl) ?_; simp (decide := true) only [go_sem, reduceIte, reduceCtorEq, jA, jB, jC, jD, jE, jF, Ent.row, Lnk.row]) | (refine kO (hc3) (kP rfl) ?_; simp (decide := true) only [go_sem, reduceIte, reduceCtorEq, jA, jB, jC, jD, jE, jF, Ent.row, Lnk.row]) | (refine kN (hd3) (kP rfl) ?_; simp (decide := true) only [go_sem, reduceIte, reduceCtorEq, jA, jB, jC, jD, jE, jF, Ent.row, Lnk.row]) | (refine kO (hd3) (kP rfl) ?_; simp (decide := true) only [go_sem, reduceIte, reduceCtorEq, jA, jB, jC, jD, jE, jF, Ent.row, Lnk.row])))
      all_goals exact ⟨(), kM rfl (by simp (decide := true) only [go_sem, reduceIte, reduceCtorEq, jA, jB, jC, jD, jE, jF]) (by simp (decide := true) only [go_sem, reduceIte, reduceCtorEq, jA, jB, jC, jD, jE, jF, Ent.row, Lnk.row])⟩
    rintro _ _
    (repeat' (first | refine kA ?_ | refine kB ?_ | ((first | (refine kC (N := 142) rfl (by kernel_rfl) ?_) | (apply kJ (id := 1) (N := 142) kplf19; kernel_rfl; rfl; kernel_rfl; (repeat (first | exact Picks.nil | (apply Picks.cons; rfl)))) | (apply kJ (id := 7) (N := 142) kpm5; kernel_rfl; rfl; kernel_rfl; (repeat (first | exact Picks.nil | (apply Picks.cons; rfl)))) | refine kD ?_ | refine kE ?_ | (refine kN (hS) (kP rfl) ?_) | (refine kO (hS) (kP rfl) ?_) | (refine kN (awake_D) (kP rfl) ?_) | (refine kO (awake_D) (kP rfl) ?_) | refine kF ?_); simp (decide := true) only [go_sem, reduceIte, reduceCtorEq, jA, jB, jC, jD, jE, jF, ii, Ent.row, Lnk.row]) | (apply kG; (simp (decide := true) only [go_sem, reduceIte, reduceCtorEq, jA, jB, jC, jD, jE, jF, ii, Ent.row, Lnk.row]; rfl); all_goals (intro hcnd; first | (exact absurd hcnd (by decide)) | skip)) | ((first | refine kH ?_ ?_ | refine kI ?_ ?_) <;> (intro hcnd; simp (decide := true) only [go_sem, reduceIte, reduceCtorEq, jA, jB, jC, jD, jE, jF, hcnd, ii, Ent.row, Lnk.row]))))
end Go.Proofs.YtiaamlaibfpdgaaDoor
