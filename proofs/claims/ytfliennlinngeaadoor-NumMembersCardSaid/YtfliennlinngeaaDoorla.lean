/- Numbers: the laws. -/
import Derived.Test.YtfliennlinngeaaDoorm3
set_option linter.all false
set_option linter.unusedVariables false
set_option linter.unusedSimpArgs false
namespace Go.Proofs.YtfliennlinngeaaDoor
open Go.Dl Go.Lib
open S (usort)
attribute [local irreducible] DW DCalls ECalls wk IW

theorem bb (b : Bool) : (b == b) = true := by simp
theorem ii (n : Int) : (n == n) = true := by simp
theorem wf_rng {n : Int} (h : wfI n) : -9223372036854775808 ≤ n ∧ n ≤ 9223372036854775807 := by
  unfold wfI at h
  simp only [Lit.wf, Bool.and_eq_true, decide_eq_true_eq] at h
  exact ⟨h.1, h.2⟩
theorem dd_lenP : ∀ (k u : Nat), u < 10 ^ (k + 1) → (decDigits u).length ≤ k + 1
  | 0, u, h => by rw [dd_small (by simpa using h)]; simp
  | k + 1, u, h => by
    by_cases h2 : u < 10
    · rw [dd_small h2]; simp
    · rw [dd_big h2]
      have := dd_lenP k (u / 10) (by rw [Nat.pow_succ] at h; omega)
      simp; omega
theorem numB_size {n : Int} (h0 : -9223372036854775808 ≤ n) (h1 : n ≤ 9223372036854775807) : (numB n).size ≤ 20 := by
  have h2 := dd_lenP 18 n.natAbs (by omega)
  have h3 : (numB n).size = (itoa n).length := by rw [← numB_list]; simp
  rw [h3]
  by_cases h : n < 0
  · rw [itoa_neg h, List.length_cons]; omega
  · rw [itoa_pos h]; omega

set_option maxRecDepth 10000 in
set_option maxHeartbeats 4000000 in
--F3
theorem lawClips (n lo hi : Int) : DCalls Tryd.prog 3 [dv (li n), dv (li lo), dv (li hi)] (dv (lb true)) := by
  have h1 := clip_D n lo hi
  have h2 := rClip_D n lo hi
  refine dcalls (N := 19) (rs := [.tmp 6]) (by kernel_rfl) Tryd.func3 rfl rfl rfl (by simp) ?_
  (repeat' (first | (refine dw_seq ?_) | (refine dw_block ?_) | ((first | (refine dw_reg (N := 19) rfl (by kernel_rfl) ?_) | (refine dw_skip ?_) | (refine dw_exit ?_) | (refine CallC.mk (h1) (LeL.of_eq rfl) ?_) | (refine CallC.light (h1) (LeL.of_eq rfl) ?_) | (refine CallC.mk (h2) (LeL.of_eq rfl) ?_) | (refine CallC.light (h2) (LeL.of_eq rfl) ?_) | (refine CallC.mk (awake_D) (LeL.of_eq rfl) ?_) | (refine CallC.light (awake_D) (LeL.of_eq rfl) ?_) | (refine dw_ret ?_)); simp (decide := true) only [go_sem, reduceIte, reduceCtorEq, Nat.reduceEqDiff, Nat.reduceAdd, Nat.reduceMul, Nat.reduceSub, Nat.reduceLeDiff, Nat.reduceBEq, ii]) | (apply dw_cond; (simp (decide := true) only [go_sem, reduceIte, reduceCtorEq, Nat.reduceEqDiff, Nat.reduceAdd, Nat.reduceMul, Nat.reduceSub, Nat.reduceLeDiff, Nat.reduceBEq, ii]; rfl); all_goals (intro hcnd; first | (exact absurd hcnd (by decide)) | skip)) | ((first | refine guardC_f ?_ ?_ | refine guardC_t ?_ ?_) <;> (intro hcnd; simp (decide := true) only [go_sem, reduceIte, reduceCtorEq, Nat.reduceEqDiff, Nat.reduceAdd, Nat.reduceMul, Nat.reduceSub, Nat.reduceLeDiff, Nat.reduceBEq, hcnd, ii]))))

set_option maxRecDepth 10000 in
set_option maxHeartbeats 4000000 in
--F4
theorem lawTexts (n : Int) (s : ByteArray) (hn : wfI n) : DCalls Tryd.prog 4 [dv (li n), dv (ls s)] (dv (lb true)) := by
  obtain ⟨r0, r1⟩ := wf_rng hn
  have e0 : (numB n == numB n) = true := (bytes_eq _ _).2 rfl
  have h1 := textN_D n r0 r1
  have h2 := rText_D n r0 r1
  refine dcalls (N := 41) (rs := [.tmp 4]) (by kernel_rfl) Tryd.func4 rfl rfl rfl (by simp) ?_
  cases t1 : decide ((300 : Int) < (s.size : Int))
  rotate_left
  · (repeat' (first | (refine dw_seq ?_) | (refine dw_block ?_) | ((first | (refine dw_reg (N := 41) rfl (by kernel_rfl) ?_) | (refine dw_skip ?_) | (refine dw_exit ?_) | (refine CallC.mk (awake_D) (LeL.of_eq rfl) ?_) | (refine CallC.light (awake_D) (LeL.of_eq rfl) ?_) | (refine dw_ret ?_)); simp (decide := true) only [go_sem, reduceIte, reduceCtorEq, Nat.reduceEqDiff, Nat.reduceAdd, Nat.reduceMul, Nat.reduceSub, Nat.reduceLeDiff, Nat.reduceBEq, t1]) | (apply dw_cond; (simp (decide := true) only [go_sem, reduceIte, reduceCtorEq, Nat.reduceEqDiff, Nat.reduceAdd, Nat.reduceMul, Nat.reduceSub, Nat.reduceLeDiff, Nat.reduceBEq, t1]; rfl); all_goals (intro hcnd; first | (exact absurd hcnd (by decide)) | skip)) | ((first | refine guardC_f ?_ ?_ | refine guardC_t ?_ ?_) <;> (intro hcnd; simp (decide := true) only [go_sem, reduceIte, reduceCtorEq, Nat.reduceEqDiff, Nat.reduceAdd, Nat.reduceMul, Nat.reduceSub, Nat.reduceLeDiff, Nat.reduceBEq, hcnd, t1]))))
  have hs : s.size ≤ 300 := by have := of_decide_eq_false t1; omega
  have h3 := parse_D s (by omega)
  have h4 := rParse_D s hs
  rw [parse_eq] at h4
  generalize parseP s.data.toList = p at h3 h4
  obtain ⟨v, b⟩ := p
  (repeat' (first | (refine dw_seq ?_) | (refine dw_block ?_) | ((first | (refine dw_reg (N := 41) rfl (by kernel_rfl) ?_) | (refine dw_skip ?_) | (refine dw_exit ?_) | (refine CallC.mk (h3) (LeL.of_eq rfl) ?_) | (refine CallC.light (h3) (LeL.of_eq rfl) ?_) | (refine CallC.mk (h4) (LeL.of_eq rfl) ?_) | (refine CallC.light (h4) (LeL.of_eq rfl) ?_) | (refine CallC.mk (h1) (LeL.of_eq rfl) ?_) | (refine CallC.light (h1) (LeL.of_eq rfl) ?_) | (refine CallC.mk (h2) (LeL.of_eq rfl) ?_) | (refine CallC.light (h2) (LeL.of_eq rfl) ?_) | (refine CallC.mk (awake_D) (LeL.of_eq rfl) ?_) | (refine CallC.light (awake_D) (LeL.of_eq rfl) ?_) | (refine dw_ret ?_)); simp (decide := true) only [go_sem, reduceIte, reduceCtorEq, Nat.reduceEqDiff, Nat.reduceAdd, Nat.reduceMul, Nat.reduceSub, Nat.reduceLeDiff, Nat.reduceBEq, t1, e0, ii, bb]) | (apply dw_cond; (simp (decide := true) only [go_sem, reduceIte, reduceCtorEq, Nat.reduceEqDiff, Nat.reduceAdd, Nat.reduceMul, Nat.reduceSub, Nat.reduceLeDiff, Nat.reduceBEq, t1, e0, ii, bb]; rfl); all_goals (intro hcnd; first | (exact absurd hcnd (by decide)) | skip)) | ((first | refine guardC_f ?_ ?_ | refine guardC_t ?_ ?_) <;> (intro hcnd; simp (decide := true) only [go_sem, reduceIte, reduceCtorEq, Nat.reduceEqDiff, Nat.reduceAdd, Nat.reduceMul, Nat.reduceSub, Nat.reduceLeDiff, Nat.reduceBEq, hcnd, t1, e0, ii, bb]))))

set_option maxRecDepth 10000 in
set_option maxHeartbeats 4000000 in
--F5
theorem lawReads (n : Int) (hn : wfI n) : DCalls Tryd.prog 5 [dv (li n)] (dv (lb true)) := by
  obtain ⟨r0, r1⟩ := wf_rng hn
  have h1 := textN_D n r0 r1
  have h3 := parse_D (numB n) (by have := numB_size r0 r1; omega)
  rw [numB_list, parse_itoa] at h3
  refine dcalls (N := 35) (rs := [.tmp 2]) (by kernel_rfl) Tryd.func5 rfl rfl rfl (by simp) ?_
  cases t1 : decide (n < -1099511627776)
  · cases t2 : decide ((1099511627776 : Int) < n)
    · rw [if_pos ⟨by have := of_decide_eq_false t1; omega, by have := of_decide_eq_false t2; omega⟩] at h3
      (repeat' (first | (refine dw_seq ?_) | (refine dw_block ?_) | ((first | (refine dw_reg (N := 35) rfl (by kernel_rfl) ?_) | (refine dw_skip ?_) | (refine dw_exit ?_) | (refine CallC.mk (h1) (LeL.of_eq rfl) ?_) | (refine CallC.light (h1) (LeL.of_eq rfl) ?_) | (refine CallC.mk (h3) (LeL.of_eq rfl) ?_) | (refine CallC.light (h3) (LeL.of_eq rfl) ?_) | (refine CallC.mk (awake_D) (LeL.of_eq rfl) ?_) | (refine CallC.light (awake_D) (LeL.of_eq rfl) ?_) | (refine dw_ret ?_)); simp (decide := true) only [go_sem, reduceIte, reduceCtorEq, Nat.reduceEqDiff, Nat.reduceAdd, Nat.reduceMul, Nat.reduceSub, Nat.reduceLeDiff, Nat.reduceBEq, t1, t2, ii]) | (apply dw_cond; (simp (decide := true) only [go_sem, reduceIte, reduceCtorEq, Nat.reduceEqDiff, Nat.reduceAdd, Nat.reduceMul, Nat.reduceSub, Nat.reduceLeDiff, Nat.reduceBEq, t1, t2, ii]; rfl); all_goals (intro hcnd; first | (exact absurd hcnd (by decide)) | skip)) | ((first | refine guardC_f ?_ ?_ | refine guardC_t ?_ ?_) <;> (intro hcnd; simp (decide := true) only [go_sem, reduceIte, reduceCtorEq, Nat.reduceEqDiff, Nat.reduceAdd, Nat.reduceMul, Nat.reduceSub, Nat.reduceLeDiff, Nat.reduceBEq, hcnd, t1, t2, ii]))))
    · rw [if_neg (fun h => by have := of_decide_eq_true t2; omega)] at h3
      (repeat' (first | (refine dw_seq ?_) | (refine dw_block ?_) | ((first | (refine dw_reg (N := 35) rfl (by kernel_rfl) ?_) | (refine dw_skip ?_) | (refine dw_exit ?_) | (refine CallC.mk (h1) (LeL.of_eq rfl) ?_) | (refine CallC.light (h1) (LeL.of_eq rfl) ?_) | (refine CallC.mk (h3) (LeL.of_eq rfl) ?_) | (refine CallC.light (h3) (LeL.of_eq rfl) ?_) | (refine CallC.mk (awake_D) (LeL.of_eq rfl) ?_) | (refine CallC.light (awake_D) (LeL.of_eq rfl) ?_) | (refine dw_ret ?_)); simp (decide := true) only [go_sem, reduceIte, reduceCtorEq, Nat.reduceEqDiff, Nat.reduceAdd, Nat.reduceMul, Nat.reduceSub, Nat.reduceLeDiff, Nat.reduceBEq, t1, t2]) | (apply dw_cond; (simp (decide := true) only [go_sem, reduceIte, reduceCtorEq, Nat.reduceEqDiff, Nat.reduceAdd, Nat.reduceMul, Nat.reduceSub, Nat.reduceLeDiff, Nat.reduceBEq, t1, t2]; rfl); all_goals (intro hcnd; first | (exact absurd hcnd (by decide)) | skip)) | ((first | refine guardC_f ?_ ?_ | refine guardC_t ?_ ?_) <;> (intro hcnd; simp (decide := true) only [go_sem, reduceIte, reduceCtorEq, Nat.reduceEqDiff, Nat.reduceAdd, Nat.reduceMul, Nat.reduceSub, Nat.reduceLeDiff, Nat.reduceBEq, hcnd, t1, t2]))))
  · rw [if_neg (fun h => by have := of_decide_eq_true t1; omega)] at h3
    (repeat' (first | (refine dw_seq ?_) | (refine dw_block ?_) | ((first | (refine dw_reg (N := 35) rfl (by kernel_rfl) ?_) | (refine dw_skip ?_) | (refine dw_exit ?_) | (refine CallC.mk (h1) (LeL.of_eq rfl) ?_) | (refine CallC.light (h1) (LeL.of_eq rfl) ?_) | (refine CallC.mk (h3) (LeL.of_eq rfl) ?_) | (refine CallC.light (h3) (LeL.of_eq rfl) ?_) | (refine CallC.mk (awake_D) (LeL.of_eq rfl) ?_) | (refine CallC.light (awake_D) (LeL.of_eq rfl) ?_) | (refine dw_ret ?_)); simp (decide := true) only [go_sem, reduceIte, reduceCtorEq, Nat.reduceEqDiff, Nat.reduceAdd, Nat.reduceMul, Nat.reduceSub, Nat.reduceLeDiff, Nat.reduceBEq, t1]) | (apply dw_cond; (simp (decide := true) only [go_sem, reduceIte, reduceCtorEq, Nat.reduceEqDiff, Nat.reduceAdd, Nat.reduceMul, Nat.reduceSub, Nat.reduceLeDiff, Nat.reduceBEq, t1]; rfl); all_goals (intro hcnd; first | (exact absurd hcnd (by decide)) | skip)) | ((first | refine guardC_f ?_ ?_ | refine guardC_t ?_ ?_) <;> (intro hcnd; simp (decide := true) only [go_sem, reduceIte, reduceCtorEq, Nat.reduceEqDiff, Nat.reduceAdd, Nat.reduceMul, Nat.reduceSub, Nat.reduceLeDiff, Nat.reduceBEq, hcnd, t1]))))

set_option maxRecDepth 10000 in
set_option maxHeartbeats 4000000 in
--F6
theorem lawOnly (s : ByteArray) : DCalls Tryd.prog 6 [dv (ls s)] (dv (lb true)) := by
  refine dcalls (N := 36) (rs := [.tmp 2]) (by kernel_rfl) Tryd.func6 rfl rfl rfl (by simp) ?_
  cases t1 : decide ((300 : Int) < (s.size : Int))
  rotate_left
  · (repeat' (first | (refine dw_seq ?_) | (refine dw_block ?_) | ((first | (refine dw_reg (N := 36) rfl (by kernel_rfl) ?_) | (refine dw_skip ?_) | (refine dw_exit ?_) | (refine CallC.mk (awake_D) (LeL.of_eq rfl) ?_) | (refine CallC.light (awake_D) (LeL.of_eq rfl) ?_) | (refine dw_ret ?_)); simp (decide := true) only [go_sem, reduceIte, reduceCtorEq, Nat.reduceEqDiff, Nat.reduceAdd, Nat.reduceMul, Nat.reduceSub, Nat.reduceLeDiff, Nat.reduceBEq, t1]) | (apply dw_cond; (simp (decide := true) only [go_sem, reduceIte, reduceCtorEq, Nat.reduceEqDiff, Nat.reduceAdd, Nat.reduceMul, Nat.reduceSub, Nat.reduceLeDiff, Nat.reduceBEq, t1]; rfl); all_goals (intro hcnd; first | (exact absurd hcnd (by decide)) | skip)) | ((first | refine guardC_f ?_ ?_ | refine guardC_t ?_ ?_) <;> (intro hcnd; simp (decide := true) only [go_sem, reduceIte, reduceCtorEq, Nat.reduceEqDiff, Nat.reduceAdd, Nat.reduceMul, Nat.reduceSub, Nat.reduceLeDiff, Nat.reduceBEq, hcnd, t1]))))
  have hs : s.size ≤ 300 := by have := of_decide_eq_false t1; omega
  have h3 := parse_D s (by omega)
  cases hp : (parseP s.data.toList).2
  · have h0 := parse_zero hp
    rw [hp, h0] at h3
    (repeat' (first | (refine dw_seq ?_) | (refine dw_block ?_) | ((first | (refine dw_reg (N := 36) rfl (by kernel_rfl) ?_) | (refine dw_skip ?_) | (refine dw_exit ?_) | (refine CallC.mk (h3) (LeL.of_eq rfl) ?_) | (refine CallC.light (h3) (LeL.of_eq rfl) ?_) | (refine CallC.mk (awake_D) (LeL.of_eq rfl) ?_) | (refine CallC.light (awake_D) (LeL.of_eq rfl) ?_) | (refine dw_ret ?_)); simp (decide := true) only [go_sem, reduceIte, reduceCtorEq, Nat.reduceEqDiff, Nat.reduceAdd, Nat.reduceMul, Nat.reduceSub, Nat.reduceLeDiff, Nat.reduceBEq, t1]) | (apply dw_cond; (simp (decide := true) only [go_sem, reduceIte, reduceCtorEq, Nat.reduceEqDiff, Nat.reduceAdd, Nat.reduceMul, Nat.reduceSub, Nat.reduceLeDiff, Nat.reduceBEq, t1]; rfl); all_goals (intro hcnd; first | (exact absurd hcnd (by decide)) | skip)) | ((first | refine guardC_f ?_ ?_ | refine guardC_t ?_ ?_) <;> (intro hcnd; simp (decide := true) only [go_sem, reduceIte, reduceCtorEq, Nat.reduceEqDiff, Nat.reduceAdd, Nat.reduceMul, Nat.reduceSub, Nat.reduceLeDiff, Nat.reduceBEq, hcnd, t1]))))
  · obtain ⟨h4, h5, h6⟩ := parse_only hp
    rw [hp] at h3
    generalize (parseP s.data.toList).1 = v at h3 h4 h5 h6
    have h1 := textN_D v (by omega) (by omega)
    have e0 : (numB v == s) = true := (bytes_eq _ _).2 (by rw [numB, h4])
    have t5 : decide (-1099511627776 ≤ v) = true := by simpa using h5
    have t6 : decide (v ≤ 1099511627776) = true := by simpa using h6
    (repeat' (first | (refine dw_seq ?_) | (refine dw_block ?_) | ((first | (refine dw_reg (N := 36) rfl (by kernel_rfl) ?_) | (refine dw_skip ?_) | (refine dw_exit ?_) | (refine CallC.mk (h3) (LeL.of_eq rfl) ?_) | (refine CallC.light (h3) (LeL.of_eq rfl) ?_) | (refine CallC.mk (h1) (LeL.of_eq rfl) ?_) | (refine CallC.light (h1) (LeL.of_eq rfl) ?_) | (refine CallC.mk (awake_D) (LeL.of_eq rfl) ?_) | (refine CallC.light (awake_D) (LeL.of_eq rfl) ?_) | (refine dw_ret ?_)); simp (decide := true) only [go_sem, reduceIte, reduceCtorEq, Nat.reduceEqDiff, Nat.reduceAdd, Nat.reduceMul, Nat.reduceSub, Nat.reduceLeDiff, Nat.reduceBEq, t1, e0, t5, t6]) | (apply dw_cond; (simp (decide := true) only [go_sem, reduceIte, reduceCtorEq, Nat.reduceEqDiff, Nat.reduceAdd, Nat.reduceMul, Nat.reduceSub, Nat.reduceLeDiff, Nat.reduceBEq, t1, e0, t5, t6]; rfl); all_goals (intro hcnd; first | (exact absurd hcnd (by decide)) | skip)) | ((first | refine guardC_f ?_ ?_ | refine guardC_t ?_ ?_) <;> (intro hcnd; simp (decide := true) only [go_sem, reduceIte, reduceCtorEq, Nat.reduceEqDiff, Nat.reduceAdd, Nat.reduceMul, Nat.reduceSub, Nat.reduceLeDiff, Nat.reduceBEq, hcnd, t1, e0, t5, t6]))))

theorem few01n_D (a : List Int) : DCalls Tryd.prog 18 [dv (.sl 1 (ints a)), dv (.lit (.slice none 0 0))] (dv (lb (decide ((a.length : Int) ≤ 200) && decide ((([] : List Int).length : Int) ≤ 200)))) :=
  dcalls_le (.cons (dle_rfl _) (.cons (DLe.nil_ 1) .nil)) (few01_D a [])

set_option maxRecDepth 10000 in
set_option maxHeartbeats 4000000 in
--F7
theorem lawSorts (l : List Int) (n : Int) : DCalls Tryd.prog 7 [dv (.sl 1 (ints l)), dv (li n)] (dv (lb true)) := by
  have hmax : maxLen = 9223372036854775807 := rfl
  have hF := few01n_D l
  refine dcalls (N := 26) (rs := [.tmp 4]) (by kernel_rfl) Tryd.func7 rfl rfl rfl (by simp) ?_
  cases t1 : decide ((l.length : Int) ≤ 200)
  · rw [t1] at hF
    (repeat' (first | (refine dw_seq ?_) | (refine dw_block ?_) | ((first | (refine dw_reg (N := 26) rfl (by kernel_rfl) ?_) | (refine dw_skip ?_) | (refine dw_exit ?_) | (refine CallC.mk (hF) (LeL.of_eq rfl) ?_) | (refine CallC.light (hF) (LeL.of_eq rfl) ?_) | (refine CallC.mk (awake_D) (LeL.of_eq rfl) ?_) | (refine CallC.light (awake_D) (LeL.of_eq rfl) ?_) | (refine dw_ret ?_)); simp (decide := true) only [go_sem, reduceIte, reduceCtorEq, Nat.reduceEqDiff, Nat.reduceAdd, Nat.reduceMul, Nat.reduceSub, Nat.reduceLeDiff, Nat.reduceBEq]) | (apply dw_cond; (simp (decide := true) only [go_sem, reduceIte, reduceCtorEq, Nat.reduceEqDiff, Nat.reduceAdd, Nat.reduceMul, Nat.reduceSub, Nat.reduceLeDiff, Nat.reduceBEq]; rfl); all_goals (intro hcnd; first | (exact absurd hcnd (by decide)) | skip)) | ((first | refine guardC_f ?_ ?_ | refine guardC_t ?_ ?_) <;> (intro hcnd; simp (decide := true) only [go_sem, reduceIte, reduceCtorEq, Nat.reduceEqDiff, Nat.reduceAdd, Nat.reduceMul, Nat.reduceSub, Nat.reduceLeDiff, Nat.reduceBEq, hcnd]))))
  rw [t1] at hF
  have hl : l.length ≤ 200 := by have := of_decide_eq_true t1; omega
  have h1 := S.sorted_D l (by omega)
  have h2 := rSorted_D l (by omega)
  have h3 := hasN_D l n (by omega)
  have h4 := rHasN_D l n (by omega)
  have h5 := sameI_D (usort l) (usort l) (by have := usort_lenI l; omega)
  rw [decide_eq_true rfl] at h5
  rw [show (l.any fun x => x == n) = inL l n from rfl] at h4
  (repeat' (first | (refine dw_seq ?_) | (refine dw_block ?_) | ((first | (refine dw_reg (N := 26) rfl (by kernel_rfl) ?_) | (refine dw_skip ?_) | (refine dw_exit ?_) | (refine CallC.mk (hF) (LeL.of_eq rfl) ?_) | (refine CallC.light (hF) (LeL.of_eq rfl) ?_) | (refine CallC.mk (h1) (LeL.of_eq rfl) ?_) | (refine CallC.light (h1) (LeL.of_eq rfl) ?_) | (refine CallC.mk (h2) (LeL.of_eq rfl) ?_) | (refine CallC.light (h2) (LeL.of_eq rfl) ?_) | (refine CallC.mk (h3) (LeL.of_eq rfl) ?_) | (refine CallC.light (h3) (LeL.of_eq rfl) ?_) | (refine CallC.mk (h4) (LeL.of_eq rfl) ?_) | (refine CallC.light (h4) (LeL.of_eq rfl) ?_) | (refine CallC.mk (h5) (LeL.of_eq rfl) ?_) | (refine CallC.light (h5) (LeL.of_eq rfl) ?_) | (refine CallC.mk (awake_D) (LeL.of_eq rfl) ?_) | (refine CallC.light (awake_D) (LeL.of_eq rfl) ?_) | (refine dw_ret ?_)); simp (decide := true) only [go_sem, reduceIte, reduceCtorEq, Nat.reduceEqDiff, Nat.reduceAdd, Nat.reduceMul, Nat.reduceSub, Nat.reduceLeDiff, Nat.reduceBEq, bb]) | (apply dw_cond; (simp (decide := true) only [go_sem, reduceIte, reduceCtorEq, Nat.reduceEqDiff, Nat.reduceAdd, Nat.reduceMul, Nat.reduceSub, Nat.reduceLeDiff, Nat.reduceBEq, bb]; rfl); all_goals (intro hcnd; first | (exact absurd hcnd (by decide)) | skip)) | ((first | refine guardC_f ?_ ?_ | refine guardC_t ?_ ?_) <;> (intro hcnd; simp (decide := true) only [go_sem, reduceIte, reduceCtorEq, Nat.reduceEqDiff, Nat.reduceAdd, Nat.reduceMul, Nat.reduceSub, Nat.reduceLeDiff, Nat.reduceBEq, hcnd, bb]))))

theorem uniI_len (a b : List Int) : (uniI a b).length ≤ a.length + b.length := by
  have := usort_lenI (a ++ b); rw [List.length_append] at this; exact this
theorem minI_len (a b : List Int) : (minI a b).length ≤ a.length := Nat.le_trans (usort_lenI _) (List.length_filter_le _ _)
theorem botI_len (a b : List Int) : (botI a b).length ≤ a.length := Nat.le_trans (usort_lenI _) (List.length_filter_le _ _)
theorem mem_uni {a b : List Int} {x : Int} : x ∈ uniI a b ↔ x ∈ a ∨ x ∈ b := by rw [uniI, (usort_spec _).2, List.mem_append]
theorem mem_min {a b : List Int} {x : Int} : x ∈ minI a b ↔ x ∈ a ∧ x ∉ b := by
  rw [minI, (usort_spec _).2, List.mem_filter]
  have := inL_iff b x
  cases h : inL b x <;> simp_all
theorem mem_bot {a b : List Int} {x : Int} : x ∈ botI a b ↔ x ∈ a ∧ x ∈ b := by
  rw [botI, (usort_spec _).2, List.mem_filter, inL_iff]
theorem wf_min {a b : List Int} (ha : ∀ x ∈ a, wfI x) : ∀ x ∈ minI a b, wfI x := fun x hx => ha x (mem_min.1 hx).1
theorem wf_bot {a b : List Int} (ha : ∀ x ∈ a, wfI x) : ∀ x ∈ botI a b, wfI x := fun x hx => ha x (mem_bot.1 hx).1
theorem few_len {a b : List Int} (h1 : decide ((a.length : Int) ≤ 200) = true) (h2 : decide ((b.length : Int) ≤ 200) = true) : a.length ≤ 200 ∧ b.length ≤ 200 := by
  have := of_decide_eq_true h1; have := of_decide_eq_true h2; omega

set_option maxRecDepth 10000 in
set_option maxHeartbeats 4000000 in
--F8
theorem lawSets (a b : List Int) (ha : ∀ x ∈ a, wfI x) (hb : ∀ x ∈ b, wfI x) : DCalls Tryd.prog 8 [dv (.sl 1 (ints a)), dv (.sl 1 (ints b))] (dv (lb true)) := by
  have hmax : maxLen = 9223372036854775807 := rfl
  have hF := few01_D a b
  refine dcalls (N := 38) (rs := [.tmp 4]) (by kernel_rfl) Tryd.func8 rfl rfl rfl (by simp) ?_
  cases t1 : decide ((a.length : Int) ≤ 200)
  · rw [t1] at hF
    (repeat' (first | (refine dw_seq ?_) | (refine dw_block ?_) | ((first | (refine dw_reg (N := 38) rfl (by kernel_rfl) ?_) | (refine dw_skip ?_) | (refine dw_exit ?_) | (refine CallC.mk (hF) (LeL.of_eq rfl) ?_) | (refine CallC.light (hF) (LeL.of_eq rfl) ?_) | (refine CallC.mk (awake_D) (LeL.of_eq rfl) ?_) | (refine CallC.light (awake_D) (LeL.of_eq rfl) ?_) | (refine dw_ret ?_)); simp (decide := true) only [go_sem, reduceIte, reduceCtorEq, Nat.reduceEqDiff, Nat.reduceAdd, Nat.reduceMul, Nat.reduceSub, Nat.reduceLeDiff, Nat.reduceBEq]) | (apply dw_cond; (simp (decide := true) only [go_sem, reduceIte, reduceCtorEq, Nat.reduceEqDiff, Nat.reduceAdd, Nat.reduceMul, Nat.reduceSub, Nat.reduceLeDiff, Nat.reduceBEq]; rfl); all_goals (intro hcnd; first | (exact absurd hcnd (by decide)) | skip)) | ((first | refine guardC_f ?_ ?_ | refine guardC_t ?_ ?_) <;> (intro hcnd; simp (decide := true) only [go_sem, reduceIte, reduceCtorEq, Nat.reduceEqDiff, Nat.reduceAdd, Nat.reduceMul, Nat.reduceSub, Nat.reduceLeDiff, Nat.reduceBEq, hcnd]))))
  cases t2 : decide ((b.length : Int) ≤ 200)
  · rw [t1, t2] at hF
    (repeat' (first | (refine dw_seq ?_) | (refine dw_block ?_) | ((first | (refine dw_reg (N := 38) rfl (by kernel_rfl) ?_) | (refine dw_skip ?_) | (refine dw_exit ?_) | (refine CallC.mk (hF) (LeL.of_eq rfl) ?_) | (refine CallC.light (hF) (LeL.of_eq rfl) ?_) | (refine CallC.mk (awake_D) (LeL.of_eq rfl) ?_) | (refine CallC.light (awake_D) (LeL.of_eq rfl) ?_) | (refine dw_ret ?_)); simp (decide := true) only [go_sem, reduceIte, reduceCtorEq, Nat.reduceEqDiff, Nat.reduceAdd, Nat.reduceMul, Nat.reduceSub, Nat.reduceLeDiff, Nat.reduceBEq]) | (apply dw_cond; (simp (decide := true) only [go_sem, reduceIte, reduceCtorEq, Nat.reduceEqDiff, Nat.reduceAdd, Nat.reduceMul, Nat.reduceSub, Nat.reduceLeDiff, Nat.reduceBEq]; rfl); all_goals (intro hcnd; first | (exact absurd hcnd (by decide)) | skip)) | ((first | refine guardC_f ?_ ?_ | refine guardC_t ?_ ?_) <;> (intro hcnd; simp (decide := true) only [go_sem, reduceIte, reduceCtorEq, Nat.reduceEqDiff, Nat.reduceAdd, Nat.reduceMul, Nat.reduceSub, Nat.reduceLeDiff, Nat.reduceBEq, hcnd]))))
  rw [t1, t2] at hF
  obtain ⟨la, lb⟩ := few_len t1 t2
  have h1 := union_D a b (by omega)
  have h2 := rUnion_D a b (by omega)
  have h3 := minus_D a b ha hb (by omega) (by omega)
  have h4 := rMinus_D a b (by omega) (by omega)
  have h5 := both_D a b ha hb (by omega) (by omega)
  have h6 := rBoth_D a b (by omega) (by omega)
  have q1 := sameI_D (uniI a b) (uniI a b) (by have := uniI_len a b; omega)
  have q2 := sameI_D (minI a b) (minI a b) (by have := minI_len a b; omega)
  have q3 := sameI_D (botI a b) (botI a b) (by have := botI_len a b; omega)
  rw [decide_eq_true rfl] at q1 q2 q3
  (repeat' (first | (refine dw_seq ?_) | (refine dw_block ?_) | ((first | (refine dw_reg (N := 38) rfl (by kernel_rfl) ?_) | (refine dw_skip ?_) | (refine dw_exit ?_) | (refine CallC.mk (hF) (LeL.of_eq rfl) ?_) | (refine CallC.light (hF) (LeL.of_eq rfl) ?_) | (refine CallC.mk (h1) (LeL.of_eq rfl) ?_) | (refine CallC.light (h1) (LeL.of_eq rfl) ?_) | (refine CallC.mk (h2) (LeL.of_eq rfl) ?_) | (refine CallC.light (h2) (LeL.of_eq rfl) ?_) | (refine CallC.mk (h3) (LeL.of_eq rfl) ?_) | (refine CallC.light (h3) (LeL.of_eq rfl) ?_) | (refine CallC.mk (h4) (LeL.of_eq rfl) ?_) | (refine CallC.light (h4) (LeL.of_eq rfl) ?_) | (refine CallC.mk (h5) (LeL.of_eq rfl) ?_) | (refine CallC.light (h5) (LeL.of_eq rfl) ?_) | (refine CallC.mk (h6) (LeL.of_eq rfl) ?_) | (refine CallC.light (h6) (LeL.of_eq rfl) ?_) | (refine CallC.mk (q1) (LeL.of_eq rfl) ?_) | (refine CallC.light (q1) (LeL.of_eq rfl) ?_) | (refine CallC.mk (q2) (LeL.of_eq rfl) ?_) | (refine CallC.light (q2) (LeL.of_eq rfl) ?_) | (refine CallC.mk (q3) (LeL.of_eq rfl) ?_) | (refine CallC.light (q3) (LeL.of_eq rfl) ?_) | (refine CallC.mk (awake_D) (LeL.of_eq rfl) ?_) | (refine CallC.light (awake_D) (LeL.of_eq rfl) ?_) | (refine dw_ret ?_)); simp (decide := true) only [go_sem, reduceIte, reduceCtorEq, Nat.reduceEqDiff, Nat.reduceAdd, Nat.reduceMul, Nat.reduceSub, Nat.reduceLeDiff, Nat.reduceBEq]) | (apply dw_cond; (simp (decide := true) only [go_sem, reduceIte, reduceCtorEq, Nat.reduceEqDiff, Nat.reduceAdd, Nat.reduceMul, Nat.reduceSub, Nat.reduceLeDiff, Nat.reduceBEq]; rfl); all_goals (intro hcnd; first | (exact absurd hcnd (by decide)) | skip)) | ((first | refine guardC_f ?_ ?_ | refine guardC_t ?_ ?_) <;> (intro hcnd; simp (decide := true) only [go_sem, reduceIte, reduceCtorEq, Nat.reduceEqDiff, Nat.reduceAdd, Nat.reduceMul, Nat.reduceSub, Nat.reduceLeDiff, Nat.reduceBEq, hcnd]))))

set_option maxRecDepth 10000 in
set_option maxHeartbeats 4000000 in
--F9
theorem lawDivides (a b : List Int) (ha : ∀ x ∈ a, wfI x) (hb : ∀ x ∈ b, wfI x) : DCalls Tryd.prog 9 [dv (.sl 1 (ints a)), dv (.sl 1 (ints b))] (dv (lb true)) := by
  have hmax : maxLen = 9223372036854775807 := rfl
  have hF := few01_D a b
  refine dcalls (N := 50) (rs := [.tmp 4]) (by kernel_rfl) Tryd.func9 rfl rfl rfl (by simp) ?_
  cases t1 : decide ((a.length : Int) ≤ 200)
  · rw [t1] at hF
    (repeat' (first | (refine dw_seq ?_) | (refine dw_block ?_) | ((first | (refine dw_reg (N := 50) rfl (by kernel_rfl) ?_) | (refine dw_skip ?_) | (refine dw_exit ?_) | (refine CallC.mk (hF) (LeL.of_eq rfl) ?_) | (refine CallC.light (hF) (LeL.of_eq rfl) ?_) | (refine CallC.mk (awake_D) (LeL.of_eq rfl) ?_) | (refine CallC.light (awake_D) (LeL.of_eq rfl) ?_) | (refine dw_ret ?_)); simp (decide := true) only [go_sem, reduceIte, reduceCtorEq, Nat.reduceEqDiff, Nat.reduceAdd, Nat.reduceMul, Nat.reduceSub, Nat.reduceLeDiff, Nat.reduceBEq]) | (apply dw_cond; (simp (decide := true) only [go_sem, reduceIte, reduceCtorEq, Nat.reduceEqDiff, Nat.reduceAdd, Nat.reduceMul, Nat.reduceSub, Nat.reduceLeDiff, Nat.reduceBEq]; rfl); all_goals (intro hcnd; first | (exact absurd hcnd (by decide)) | skip)) | ((first | refine guardC_f ?_ ?_ | refine guardC_t ?_ ?_) <;> (intro hcnd; simp (decide := true) only [go_sem, reduceIte, reduceCtorEq, Nat.reduceEqDiff, Nat.reduceAdd, Nat.reduceMul, Nat.reduceSub, Nat.reduceLeDiff, Nat.reduceBEq, hcnd]))))
  cases t2 : decide ((b.length : Int) ≤ 200)
  · rw [t1, t2] at hF
    (repeat' (first | (refine dw_seq ?_) | (refine dw_block ?_) | ((first | (refine dw_reg (N := 50) rfl (by kernel_rfl) ?_) | (refine dw_skip ?_) | (refine dw_exit ?_) | (refine CallC.mk (hF) (LeL.of_eq rfl) ?_) | (refine CallC.light (hF) (LeL.of_eq rfl) ?_) | (refine CallC.mk (awake_D) (LeL.of_eq rfl) ?_) | (refine CallC.light (awake_D) (LeL.of_eq rfl) ?_) | (refine dw_ret ?_)); simp (decide := true) only [go_sem, reduceIte, reduceCtorEq, Nat.reduceEqDiff, Nat.reduceAdd, Nat.reduceMul, Nat.reduceSub, Nat.reduceLeDiff, Nat.reduceBEq]) | (apply dw_cond; (simp (decide := true) only [go_sem, reduceIte, reduceCtorEq, Nat.reduceEqDiff, Nat.reduceAdd, Nat.reduceMul, Nat.reduceSub, Nat.reduceLeDiff, Nat.reduceBEq]; rfl); all_goals (intro hcnd; first | (exact absurd hcnd (by decide)) | skip)) | ((first | refine guardC_f ?_ ?_ | refine guardC_t ?_ ?_) <;> (intro hcnd; simp (decide := true) only [go_sem, reduceIte, reduceCtorEq, Nat.reduceEqDiff, Nat.reduceAdd, Nat.reduceMul, Nat.reduceSub, Nat.reduceLeDiff, Nat.reduceBEq, hcnd]))))
  rw [t1, t2] at hF
  obtain ⟨la, lb⟩ := few_len t1 t2
  have lm := minI_len a b
  have lc := botI_len a b
  have h3 := minus_D a b ha hb (by omega) (by omega)
  have h5 := both_D a b ha hb (by omega) (by omega)
  have u1 := union_D (minI a b) (botI a b) (by omega)
  have e1 : uniI (minI a b) (botI a b) = usort a := usort_congr fun x => by
    rw [List.mem_append, mem_min, mem_bot]
    by_cases h : x ∈ b <;> simp [h]
  rw [e1] at u1
  have s1 := S.sorted_D a (by omega)
  have b1 := both_D (minI a b) b (wf_min ha) hb (by omega) (by omega)
  have e2 : botI (minI a b) b = [] := List.eq_nil_iff_forall_not_mem.2 fun x hx => (mem_min.1 (mem_bot.1 hx).1).2 (mem_bot.1 hx).2
  rw [e2] at b1
  have u2 := union_D a b (by omega)
  have u3 := union_D b a (by omega)
  have e3 : uniI b a = uniI a b := usort_congr fun x => by simp [or_comm]
  rw [e3] at u3
  have b2 := both_D b a hb ha (by omega) (by omega)
  have e4 : botI b a = botI a b := usort_congr fun x => by simp [List.mem_filter, inL_iff, and_comm]
  rw [e4] at b2
  have q1 := sameI_D (usort a) (usort a) (by have := usort_lenI a; omega)
  have q2 := sameI_D (uniI a b) (uniI a b) (by have := uniI_len a b; omega)
  have q3 := sameI_D (botI a b) (botI a b) (by omega)
  rw [decide_eq_true rfl] at q1 q2 q3
  simp only [List.map_nil] at b1
  (repeat' (first | (refine dw_seq ?_) | (refine dw_block ?_) | ((first | (refine dw_reg (N := 50) rfl (by kernel_rfl) ?_) | (refine dw_skip ?_) | (refine dw_exit ?_) | (refine CallC.mk (hF) (LeL.of_eq rfl) ?_) | (refine CallC.light (hF) (LeL.of_eq rfl) ?_) | (refine CallC.mk (h3) (LeL.of_eq rfl) ?_) | (refine CallC.light (h3) (LeL.of_eq rfl) ?_) | (refine CallC.mk (h5) (LeL.of_eq rfl) ?_) | (refine CallC.light (h5) (LeL.of_eq rfl) ?_) | (refine CallC.mk (u1) (LeL.of_eq rfl) ?_) | (refine CallC.light (u1) (LeL.of_eq rfl) ?_) | (refine CallC.mk (s1) (LeL.of_eq rfl) ?_) | (refine CallC.light (s1) (LeL.of_eq rfl) ?_) | (refine CallC.mk (q1) (LeL.of_eq rfl) ?_) | (refine CallC.light (q1) (LeL.of_eq rfl) ?_) | (refine CallC.mk (b1) (LeL.of_eq rfl) ?_) | (refine CallC.light (b1) (LeL.of_eq rfl) ?_) | (refine CallC.mk (u2) (LeL.of_eq rfl) ?_) | (refine CallC.light (u2) (LeL.of_eq rfl) ?_) | (refine CallC.mk (u3) (LeL.of_eq rfl) ?_) | (refine CallC.light (u3) (LeL.of_eq rfl) ?_) | (refine CallC.mk (q2) (LeL.of_eq rfl) ?_) | (refine CallC.light (q2) (LeL.of_eq rfl) ?_) | (refine CallC.mk (b2) (LeL.of_eq rfl) ?_) | (refine CallC.light (b2) (LeL.of_eq rfl) ?_) | (refine CallC.mk (q3) (LeL.of_eq rfl) ?_) | (refine CallC.light (q3) (LeL.of_eq rfl) ?_) | (refine CallC.mk (awake_D) (LeL.of_eq rfl) ?_) | (refine CallC.light (awake_D) (LeL.of_eq rfl) ?_) | (refine dw_ret ?_)); simp (decide := true) only [go_sem, reduceIte, reduceCtorEq, Nat.reduceEqDiff, Nat.reduceAdd, Nat.reduceMul, Nat.reduceSub, Nat.reduceLeDiff, Nat.reduceBEq]) | (apply dw_cond; (simp (decide := true) only [go_sem, reduceIte, reduceCtorEq, Nat.reduceEqDiff, Nat.reduceAdd, Nat.reduceMul, Nat.reduceSub, Nat.reduceLeDiff, Nat.reduceBEq]; rfl); all_goals (intro hcnd; first | (exact absurd hcnd (by decide)) | skip)) | ((first | refine guardC_f ?_ ?_ | refine guardC_t ?_ ?_) <;> (intro hcnd; simp (decide := true) only [go_sem, reduceIte, reduceCtorEq, Nat.reduceEqDiff, Nat.reduceAdd, Nat.reduceMul, Nat.reduceSub, Nat.reduceLeDiff, Nat.reduceBEq, hcnd]))))

set_option maxRecDepth 20000 in
set_option maxHeartbeats 8000000 in
--F10
theorem lawMembers (a b : List Int) (n : Int) (ha : ∀ x ∈ a, wfI x) (hb : ∀ x ∈ b, wfI x) : DCalls Tryd.prog 10 [dv (.sl 1 (ints a)), dv (.sl 1 (ints b)), dv (li n)] (dv (lb true)) := by
  have hmax : maxLen = 9223372036854775807 := rfl
  have hF := few01_D a b
  refine dcalls (N := 76) (rs := [.tmp 6]) (by kernel_rfl) Tryd.func10 rfl rfl rfl (by simp) ?_
  cases t1 : decide ((a.length : Int) ≤ 200)
  · rw [t1] at hF
    (repeat' (first | (refine dw_seq ?_) | (refine dw_block ?_) | ((first | (refine dw_reg (N := 76) rfl (by kernel_rfl) ?_) | (refine dw_skip ?_) | (refine dw_exit ?_) | (refine CallC.mk (hF) (LeL.of_eq rfl) ?_) | (refine CallC.light (hF) (LeL.of_eq rfl) ?_) | (refine CallC.mk (awake_D) (LeL.of_eq rfl) ?_) | (refine CallC.light (awake_D) (LeL.of_eq rfl) ?_) | (refine dw_ret ?_)); simp (decide := true) only [go_sem, reduceIte, reduceCtorEq, Nat.reduceEqDiff, Nat.reduceAdd, Nat.reduceMul, Nat.reduceSub, Nat.reduceLeDiff, Nat.reduceBEq]) | (apply dw_cond; (simp (decide := true) only [go_sem, reduceIte, reduceCtorEq, Nat.reduceEqDiff, Nat.reduceAdd, Nat.reduceMul, Nat.reduceSub, Nat.reduceLeDiff, Nat.reduceBEq]; rfl); all_goals (intro hcnd; first | (exact absurd hcnd (by decide)) | skip)) | ((first | refine guardC_f ?_ ?_ | refine guardC_t ?_ ?_) <;> (intro hcnd; simp (decide := true) only [go_sem, reduceIte, reduceCtorEq, Nat.reduceEqDiff, Nat.reduceAdd, Nat.reduceMul, Nat.reduceSub, Nat.reduceLeDiff, Nat.reduceBEq, hcnd]))))
  cases t2 : decide ((b.length : Int) ≤ 200)
  · rw [t1, t2] at hF
    (repeat' (first | (refine dw_seq ?_) | (refine dw_block ?_) | ((first | (refine dw_reg (N := 76) rfl (by kernel_rfl) ?_) | (refine dw_skip ?_) | (refine dw_exit ?_) | (refine CallC.mk (hF) (LeL.of_eq rfl) ?_) | (refine CallC.light (hF) (LeL.of_eq rfl) ?_) | (refine CallC.mk (awake_D) (LeL.of_eq rfl) ?_) | (refine CallC.light (awake_D) (LeL.of_eq rfl) ?_) | (refine dw_ret ?_)); simp (decide := true) only [go_sem, reduceIte, reduceCtorEq, Nat.reduceEqDiff, Nat.reduceAdd, Nat.reduceMul, Nat.reduceSub, Nat.reduceLeDiff, Nat.reduceBEq]) | (apply dw_cond; (simp (decide := true) only [go_sem, reduceIte, reduceCtorEq, Nat.reduceEqDiff, Nat.reduceAdd, Nat.reduceMul, Nat.reduceSub, Nat.reduceLeDiff, Nat.reduceBEq]; rfl); all_goals (intro hcnd; first | (exact absurd hcnd (by decide)) | skip)) | ((first | refine guardC_f ?_ ?_ | refine guardC_t ?_ ?_) <;> (intro hcnd; simp (decide := true) only [go_sem, reduceIte, reduceCtorEq, Nat.reduceEqDiff, Nat.reduceAdd, Nat.reduceMul, Nat.reduceSub, Nat.reduceLeDiff, Nat.reduceBEq, hcnd]))))
  rw [t1, t2] at hF
  obtain ⟨la, lb⟩ := few_len t1 t2
  have lu := uniI_len a b
  have lm := minI_len a b
  have lc := botI_len a b
  have h1 := union_D a b (by omega)
  have h3 := minus_D a b ha hb (by omega) (by omega)
  have h5 := both_D a b ha hb (by omega) (by omega)
  have y1 := up_D (uniI a b) (by omega) (usort_spec _).1
  have y2 := up_D (minI a b) (by omega) (usort_spec _).1
  have y3 := up_D (botI a b) (by omega) (usort_spec _).1
  have g1 := hasN_D a n (by omega)
  have g2 := hasN_D b n (by omega)
  have g3 := hasN_D (uniI a b) n (by omega)
  have g4 := hasN_D (minI a b) n (by omega)
  have g5 := hasN_D (botI a b) n (by omega)
  have e3 : inL (uniI a b) n = (inL a n || inL b n) := by rw [Bool.eq_iff_iff, Bool.or_eq_true, inL_iff, inL_iff, inL_iff, mem_uni]
  have e4 : inL (minI a b) n = (inL a n && !inL b n) := by
    rw [Bool.eq_iff_iff, Bool.and_eq_true, inL_iff, inL_iff, mem_min]
    have := inL_iff b n
    cases h : inL b n <;> simp_all
  have e5 : inL (botI a b) n = (inL a n && inL b n) := by rw [Bool.eq_iff_iff, Bool.and_eq_true, inL_iff, inL_iff, inL_iff, mem_bot]
  rw [e3] at g3
  rw [e4] at g4
  rw [e5] at g5
  cases q1 : inL a n <;> cases q2 : inL b n <;> rw [q1, q2] at g3 g4 g5 <;> rw [q1] at g1 <;> rw [q2] at g2
  · (repeat' (first | (refine dw_seq ?_) | (refine dw_block ?_) | ((first | (refine dw_reg (N := 76) rfl (by kernel_rfl) ?_) | (refine dw_skip ?_) | (refine dw_exit ?_) | (refine CallC.mk (hF) (LeL.of_eq rfl) ?_) | (refine CallC.light (hF) (LeL.of_eq rfl) ?_) | (refine CallC.mk (h1) (LeL.of_eq rfl) ?_) | (refine CallC.light (h1) (LeL.of_eq rfl) ?_) | (refine CallC.mk (h3) (LeL.of_eq rfl) ?_) | (refine CallC.light (h3) (LeL.of_eq rfl) ?_) | (refine CallC.mk (h5) (LeL.of_eq rfl) ?_) | (refine CallC.light (h5) (LeL.of_eq rfl) ?_) | (refine CallC.mk (g1) (LeL.of_eq rfl) ?_) | (refine CallC.light (g1) (LeL.of_eq rfl) ?_) | (refine CallC.mk (g2) (LeL.of_eq rfl) ?_) | (refine CallC.light (g2) (LeL.of_eq rfl) ?_) | (refine CallC.mk (y1) (LeL.of_eq rfl) ?_) | (refine CallC.light (y1) (LeL.of_eq rfl) ?_) | (refine CallC.mk (y2) (LeL.of_eq rfl) ?_) | (refine CallC.light (y2) (LeL.of_eq rfl) ?_) | (refine CallC.mk (y3) (LeL.of_eq rfl) ?_) | (refine CallC.light (y3) (LeL.of_eq rfl) ?_) | (refine CallC.mk (g3) (LeL.of_eq rfl) ?_) | (refine CallC.light (g3) (LeL.of_eq rfl) ?_) | (refine CallC.mk (g4) (LeL.of_eq rfl) ?_) | (refine CallC.light (g4) (LeL.of_eq rfl) ?_) | (refine CallC.mk (g5) (LeL.of_eq rfl) ?_) | (refine CallC.light (g5) (LeL.of_eq rfl) ?_) | (refine CallC.mk (awake_D) (LeL.of_eq rfl) ?_) | (refine CallC.light (awake_D) (LeL.of_eq rfl) ?_) | (refine dw_ret ?_)); simp (decide := true) only [go_sem, reduceIte, reduceCtorEq, Nat.reduceEqDiff, Nat.reduceAdd, Nat.reduceMul, Nat.reduceSub, Nat.reduceLeDiff, Nat.reduceBEq, bb]) | (apply dw_cond; (simp (decide := true) only [go_sem, reduceIte, reduceCtorEq, Nat.reduceEqDiff, Nat.reduceAdd, Nat.reduceMul, Nat.reduceSub, Nat.reduceLeDiff, Nat.reduceBEq, bb]; rfl); all_goals (intro hcnd; first | (exact absurd hcnd (by decide)) | skip)) | ((first | refine guardC_f ?_ ?_ | refine guardC_t ?_ ?_) <;> (intro hcnd; simp (decide := true) only [go_sem, reduceIte, reduceCtorEq, Nat.reduceEqDiff, Nat.reduceAdd, Nat.reduceMul, Nat.reduceSub, Nat.reduceLeDiff, Nat.reduceBEq, hcnd, bb]))))
  · (repeat' (first | (refine dw_seq ?_) | (refine dw_block ?_) | ((first | (refine dw_reg (N := 76) rfl (by kernel_rfl) ?_) | (refine dw_skip ?_) | (refine dw_exit ?_) | (refine CallC.mk (hF) (LeL.of_eq rfl) ?_) | (refine CallC.light (hF) (LeL.of_eq rfl) ?_) | (refine CallC.mk (h1) (LeL.of_eq rfl) ?_) | (refine CallC.light (h1) (LeL.of_eq rfl) ?_) | (refine CallC.mk (h3) (LeL.of_eq rfl) ?_) | (refine CallC.light (h3) (LeL.of_eq rfl) ?_) | (refine CallC.mk (h5) (LeL.of_eq rfl) ?_) | (refine CallC.light (h5) (LeL.of_eq rfl) ?_) | (refine CallC.mk (g1) (LeL.of_eq rfl) ?_) | (refine CallC.light (g1) (LeL.of_eq rfl) ?_) | (refine CallC.mk (g2) (LeL.of_eq rfl) ?_) | (refine CallC.light (g2) (LeL.of_eq rfl) ?_) | (refine CallC.mk (y1) (LeL.of_eq rfl) ?_) | (refine CallC.light (y1) (LeL.of_eq rfl) ?_) | (refine CallC.mk (y2) (LeL.of_eq rfl) ?_) | (refine CallC.light (y2) (LeL.of_eq rfl) ?_) | (refine CallC.mk (y3) (LeL.of_eq rfl) ?_) | (refine CallC.light (y3) (LeL.of_eq rfl) ?_) | (refine CallC.mk (g3) (LeL.of_eq rfl) ?_) | (refine CallC.light (g3) (LeL.of_eq rfl) ?_) | (refine CallC.mk (g4) (LeL.of_eq rfl) ?_) | (refine CallC.light (g4) (LeL.of_eq rfl) ?_) | (refine CallC.mk (g5) (LeL.of_eq rfl) ?_) | (refine CallC.light (g5) (LeL.of_eq rfl) ?_) | (refine CallC.mk (awake_D) (LeL.of_eq rfl) ?_) | (refine CallC.light (awake_D) (LeL.of_eq rfl) ?_) | (refine dw_ret ?_)); simp (decide := true) only [go_sem, reduceIte, reduceCtorEq, Nat.reduceEqDiff, Nat.reduceAdd, Nat.reduceMul, Nat.reduceSub, Nat.reduceLeDiff, Nat.reduceBEq, bb]) | (apply dw_cond; (simp (decide := true) only [go_sem, reduceIte, reduceCtorEq, Nat.reduceEqDiff, Nat.reduceAdd, Nat.reduceMul, Nat.reduceSub, Nat.reduceLeDiff, Nat.reduceBEq, bb]; rfl); all_goals (intro hcnd; first | (exact absurd hcnd (by decide)) | skip)) | ((first | refine guardC_f ?_ ?_ | refine guardC_t ?_ ?_) <;> (intro hcnd; simp (decide := true) only [go_sem, reduceIte, reduceCtorEq, Nat.reduceEqDiff, Nat.reduceAdd, Nat.reduceMul, Nat.reduceSub, Nat.reduceLeDiff, Nat.reduceBEq, hcnd, bb]))))
  · (repeat' (first | (refine dw_seq ?_) | (refine dw_block ?_) | ((first | (refine dw_reg (N := 76) rfl (by kernel_rfl) ?_) | (refine dw_skip ?_) | (refine dw_exit ?_) | (refine CallC.mk (hF) (LeL.of_eq rfl) ?_) | (refine CallC.light (hF) (LeL.of_eq rfl) ?_) | (refine CallC.mk (h1) (LeL.of_eq rfl) ?_) | (refine CallC.light (h1) (LeL.of_eq rfl) ?_) | (refine CallC.mk (h3) (LeL.of_eq rfl) ?_) | (refine CallC.light (h3) (LeL.of_eq rfl) ?_) | (refine CallC.mk (h5) (LeL.of_eq rfl) ?_) | (refine CallC.light (h5) (LeL.of_eq rfl) ?_) | (refine CallC.mk (g1) (LeL.of_eq rfl) ?_) | (refine CallC.light (g1) (LeL.of_eq rfl) ?_) | (refine CallC.mk (g2) (LeL.of_eq rfl) ?_) | (refine CallC.light (g2) (LeL.of_eq rfl) ?_) | (refine CallC.mk (y1) (LeL.of_eq rfl) ?_) | (refine CallC.light (y1) (LeL.of_eq rfl) ?_) | (refine CallC.mk (y2) (LeL.of_eq rfl) ?_) | (refine CallC.light (y2) (LeL.of_eq rfl) ?_) | (refine CallC.mk (y3) (LeL.of_eq rfl) ?_) | (refine CallC.light (y3) (LeL.of_eq rfl) ?_) | (refine CallC.mk (g3) (LeL.of_eq rfl) ?_) | (refine CallC.light (g3) (LeL.of_eq rfl) ?_) | (refine CallC.mk (g4) (LeL.of_eq rfl) ?_) | (refine CallC.light (g4) (LeL.of_eq rfl) ?_) | (refine CallC.mk (g5) (LeL.of_eq rfl) ?_) | (refine CallC.light (g5) (LeL.of_eq rfl) ?_) | (refine CallC.mk (awake_D) (LeL.of_eq rfl) ?_) | (refine CallC.light (awake_D) (LeL.of_eq rfl) ?_) | (refine dw_ret ?_)); simp (decide := true) only [go_sem, reduceIte, reduceCtorEq, Nat.reduceEqDiff, Nat.reduceAdd, Nat.reduceMul, Nat.reduceSub, Nat.reduceLeDiff, Nat.reduceBEq, bb]) | (apply dw_cond; (simp (decide := true) only [go_sem, reduceIte, reduceCtorEq, Nat.reduceEqDiff, Nat.reduceAdd, Nat.reduceMul, Nat.reduceSub, Nat.reduceLeDiff, Nat.reduceBEq, bb]; rfl); all_goals (intro hcnd; first | (exact absurd hcnd (by decide)) | skip)) | ((first | refine guardC_f ?_ ?_ | refine guardC_t ?_ ?_) <;> (intro hcnd; simp (decide := true) only [go_sem, reduceIte, reduceCtorEq, Nat.reduceEqDiff, Nat.reduceAdd, Nat.reduceMul, Nat.reduceSub, Nat.reduceLeDiff, Nat.reduceBEq, hcnd, bb]))))
  · (repeat' (first | (refine dw_seq ?_) | (refine dw_block ?_) | ((first | (refine dw_reg (N := 76) rfl (by kernel_rfl) ?_) | (refine dw_skip ?_) | (refine dw_exit ?_) | (refine CallC.mk (hF) (LeL.of_eq rfl) ?_) | (refine CallC.light (hF) (LeL.of_eq rfl) ?_) | (refine CallC.mk (h1) (LeL.of_eq rfl) ?_) | (refine CallC.light (h1) (LeL.of_eq rfl) ?_) | (refine CallC.mk (h3) (LeL.of_eq rfl) ?_) | (refine CallC.light (h3) (LeL.of_eq rfl) ?_) | (refine CallC.mk (h5) (LeL.of_eq rfl) ?_) | (refine CallC.light (h5) (LeL.of_eq rfl) ?_) | (refine CallC.mk (g1) (LeL.of_eq rfl) ?_) | (refine CallC.light (g1) (LeL.of_eq rfl) ?_) | (refine CallC.mk (g2) (LeL.of_eq rfl) ?_) | (refine CallC.light (g2) (LeL.of_eq rfl) ?_) | (refine CallC.mk (y1) (LeL.of_eq rfl) ?_) | (refine CallC.light (y1) (LeL.of_eq rfl) ?_) | (refine CallC.mk (y2) (LeL.of_eq rfl) ?_) | (refine CallC.light (y2) (LeL.of_eq rfl) ?_) | (refine CallC.mk (y3) (LeL.of_eq rfl) ?_) | (refine CallC.light (y3) (LeL.of_eq rfl) ?_) | (refine CallC.mk (g3) (LeL.of_eq rfl) ?_) | (refine CallC.light (g3) (LeL.of_eq rfl) ?_) | (refine CallC.mk (g4) (LeL.of_eq rfl) ?_) | (refine CallC.light (g4) (LeL.of_eq rfl) ?_) | (refine CallC.mk (g5) (LeL.of_eq rfl) ?_) | (refine CallC.light (g5) (LeL.of_eq rfl) ?_) | (refine CallC.mk (awake_D) (LeL.of_eq rfl) ?_) | (refine CallC.light (awake_D) (LeL.of_eq rfl) ?_) | (refine dw_ret ?_)); simp (decide := true) only [go_sem, reduceIte, reduceCtorEq, Nat.reduceEqDiff, Nat.reduceAdd, Nat.reduceMul, Nat.reduceSub, Nat.reduceLeDiff, Nat.reduceBEq, bb]) | (apply dw_cond; (simp (decide := true) only [go_sem, reduceIte, reduceCtorEq, Nat.reduceEqDiff, Nat.reduceAdd, Nat.reduceMul, Nat.reduceSub, Nat.reduceLeDiff, Nat.reduceBEq, bb]; rfl); all_goals (intro hcnd; first | (exact absurd hcnd (by decide)) | skip)) | ((first | refine guardC_f ?_ ?_ | refine guardC_t ?_ ?_) <;> (intro hcnd; simp (decide := true) only [go_sem, reduceIte, reduceCtorEq, Nat.reduceEqDiff, Nat.reduceAdd, Nat.reduceMul, Nat.reduceSub, Nat.reduceLeDiff, Nat.reduceBEq, hcnd, bb]))))
end Go.Proofs.YtfliennlinngeaaDoor
