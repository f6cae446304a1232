/- Entries: the laws (I). -/
import Derived.Test.YtiaamlaibfpdgaaDoorm5
set_option linter.all false
set_option linter.unusedVariables false
set_option linter.unusedSimpArgs false
open Nat renaming reduceEqDiff → jA, reduceAdd → jB, reduceMul → jC, reduceSub → jD, reduceLeDiff → jE, reduceBEq → jF
namespace Go.Proofs.YtiaamlaibfpdgaaDoor
open Go.Dl
open Go.Dl renaming dw_seq → kA, dw_block → kB, dw_reg → kC, dw_skip → kD, dw_exit → kE, dw_ret → kF, dw_cond → kG, guardC_f → kH, guardC_t → kI, dw_drw → kJ, dw_weaken → kK, sub_kn → kL, sub_ml → kM
open Go.Dl.CallC renaming mk → kN, light → kO
open Go.Dl.LeL renaming of_eq → kP
attribute [local irreducible] DW DCalls ECalls wk IW

theorem bb (b : Bool) : (b == b) = true := by simp
theorem ii (n : Int) : (n == n) = true := by simp

set_option maxRecDepth 10000 in
set_option maxHeartbeats 4000000 in
theorem lawGlosses (s : ByteArray) (hs : s.size ≤ 1048576) : DCalls Tryd.prog 3 [dv (ls s)] (dv (lb true)) := by
  refine dcalls (N := 11) (rs := [.tmp 2]) (by kernel_rfl) Tryd.func3 rfl rfl rfl (by simp) ?_
  (repeat' (first | refine kA ?_ | refine kB ?_ | ((first | (refine kC (N := 11) rfl (by kernel_rfl) ?_) | refine kD ?_ | refine kE ?_ | (refine kN (gloss_D s) (kP rfl) ?_) | (refine kO (gloss_D s) (kP rfl) ?_) | (refine kN (rGloss_D s hs) (kP rfl) ?_) | (refine kO (rGloss_D s hs) (kP rfl) ?_) | (refine kN (awake_D) (kP rfl) ?_) | (refine kO (awake_D) (kP rfl) ?_) | refine kF ?_); simp (decide := true) only [go_sem, reduceIte, reduceCtorEq, jA, jB, jC, jD, jE, jF, bb]) | (apply kG; (simp (decide := true) only [go_sem, reduceIte, reduceCtorEq, jA, jB, jC, jD, jE, jF, bb]; rfl); all_goals (intro hcnd; first | (exact absurd hcnd (by decide)) | skip)) | ((first | refine kH ?_ ?_ | refine kI ?_ ?_) <;> (intro hcnd; simp (decide := true) only [go_sem, reduceIte, reduceCtorEq, jA, jB, jC, jD, jE, jF, hcnd, bb]))))

def plainL (l : List UInt8) : Bool := l.all fun b => ((b.toNat : Nat) : Int) != 32 && ((b.toNat : Nat) : Int) != 45
theorem plainL_all (s : ByteArray) : plainL s.data.toList = !spB s := by
  rw [plainL, spB, List.all_eq_not_any_not]
  congr 1
  refine congrArg (List.any s.data.toList) (funext fun b => ?_)
  cases h : ((b.toNat : Nat) : Int) == 32 <;> cases h2 : ((b.toNat : Nat) : Int) == 45 <;> simp [bne, h, h2]
theorem plainL_snoc (l : List UInt8) (b : UInt8) : plainL (l ++ [b]) = (plainL l && (((b.toNat : Nat) : Int) != 32 && ((b.toNat : Nat) : Int) != 45)) := by simp [plainL]

set_option maxRecDepth 10000 in
set_option maxHeartbeats 4000000 in
theorem lawLabels (s : ByteArray) (hs : s.size ≤ maxLen) : DCalls Tryd.prog 4 [dv (ls s)] (dv (lb true)) := by
  have hmax : maxLen = 9223372036854775807 := rfl
  have hsz := sz_list s
  refine dcalls (N := 35) (rs := [.tmp 2]) (by kernel_rfl) Tryd.func4 rfl rfl rfl (by simp) ?_
  (repeat' (first | refine kA ?_ | refine kB ?_ | ((first | (refine kC (N := 35) rfl (by kernel_rfl) ?_) | refine kD ?_ | refine kE ?_); simp (decide := true) only [go_sem, reduceIte, reduceCtorEq, jA, jB, jC, jD, jE, jF]) | (apply kG; (simp (decide := true) only [go_sem, reduceIte, reduceCtorEq, jA, jB, jC, jD, jE, jF]; rfl); all_goals (intro hcnd; first | (exact absurd hcnd (by decide)) | skip)) | ((first | refine kH ?_ ?_ | refine kI ?_ ?_) <;> (intro hcnd; simp (decide := true) only [go_sem, reduceIte, reduceCtorEq, jA, jB, jC, jD, jE, jF, hcnd]))))
  refine dw_rng0 s.data.toList (fun k => kn 35 [(0, dv (ls s)), (3, dv (lb (plainL (s.data.toList.take k)))), (4, dv (li k))] noMem) (by rw [hsz]; exact hs) (kL rfl (by simp (decide := true) only [go_sem, reduceIte, reduceCtorEq, jA, jB, jC, jD, jE, jF, List.take_zero, plainL, List.all_nil]) (by simp [noMem])) ?_ ?_
  · intro k b hb hk hm htk hlt hw
    rw [hsz] at hlt
    have hst : plainL (s.data.toList.take (k + 1)) = (plainL (s.data.toList.take k) && (((b.toNat : Nat) : Int) != 32 && ((b.toNat : Nat) : Int) != 45)) := by rw [htk, plainL_snoc]
    cases t1 : plainL (s.data.toList.take k)
    · rw [t1] at hst
      simp only [Bool.false_and] at hst
      (repeat' (first | refine kA ?_ | refine kB ?_ | ((first | (refine kC (N := 35) rfl (by kernel_rfl) ?_) | refine kD ?_ | refine kE ?_ | refine kF ?_); simp (decide := true) only [go_sem, reduceIte, reduceCtorEq, jA, jB, jC, jD, jE, jF, hlt, hw, hb, bytesC_at hb, t1]) | (apply kG; (simp (decide := true) only [go_sem, reduceIte, reduceCtorEq, jA, jB, jC, jD, jE, jF, hlt, hw, hb, bytesC_at hb, t1]; rfl); all_goals (intro hcnd; first | (exact absurd hcnd (by decide)) | skip)) | ((first | refine kH ?_ ?_ | refine kI ?_ ?_) <;> (intro hcnd; simp (decide := true) only [go_sem, reduceIte, reduceCtorEq, jA, jB, jC, jD, jE, jF, hcnd, hlt, hw, hb, bytesC_at hb, t1]))))
      exact kL rfl (by simp (decide := true) only [go_sem, reduceIte, reduceCtorEq, jA, jB, jC, jD, jE, jF, hst]) (by simp [noMem])
    · rw [t1] at hst
      simp only [Bool.true_and] at hst
      cases t2 : ((b.toNat : Nat) : Int) != 32
      · rw [t2] at hst
        simp only [Bool.false_and] at hst
        (repeat' (first | refine kA ?_ | refine kB ?_ | ((first | (refine kC (N := 35) rfl (by kernel_rfl) ?_) | refine kD ?_ | refine kE ?_ | refine kF ?_); simp (decide := true) only [go_sem, reduceIte, reduceCtorEq, jA, jB, jC, jD, jE, jF, hlt, hw, hb, bytesC_at hb, t1, t2]) | (apply kG; (simp (decide := true) only [go_sem, reduceIte, reduceCtorEq, jA, jB, jC, jD, jE, jF, hlt, hw, hb, bytesC_at hb, t1, t2]; rfl); all_goals (intro hcnd; first | (exact absurd hcnd (by decide)) | skip)) | ((first | refine kH ?_ ?_ | refine kI ?_ ?_) <;> (intro hcnd; simp (decide := true) only [go_sem, reduceIte, reduceCtorEq, jA, jB, jC, jD, jE, jF, hcnd, hlt, hw, hb, bytesC_at hb, t1, t2]))))
        exact kL rfl (by simp (decide := true) only [go_sem, reduceIte, reduceCtorEq, jA, jB, jC, jD, jE, jF, hst]) (by simp [noMem])
      · rw [t2] at hst
        simp only [Bool.true_and] at hst
        (repeat' (first | refine kA ?_ | refine kB ?_ | ((first | (refine kC (N := 35) rfl (by kernel_rfl) ?_) | refine kD ?_ | refine kE ?_ | refine kF ?_); simp (decide := true) only [go_sem, reduceIte, reduceCtorEq, jA, jB, jC, jD, jE, jF, hlt, hw, hb, bytesC_at hb, t1, t2]) | (apply kG; (simp (decide := true) only [go_sem, reduceIte, reduceCtorEq, jA, jB, jC, jD, jE, jF, hlt, hw, hb, bytesC_at hb, t1, t2]; rfl); all_goals (intro hcnd; first | (exact absurd hcnd (by decide)) | skip)) | ((first | refine kH ?_ ?_ | refine kI ?_ ?_) <;> (intro hcnd; simp (decide := true) only [go_sem, reduceIte, reduceCtorEq, jA, jB, jC, jD, jE, jF, hcnd, hlt, hw, hb, bytesC_at hb, t1, t2]))))
        exact kL rfl (by simp (decide := true) only [go_sem, reduceIte, reduceCtorEq, jA, jB, jC, jD, jE, jF, hst]) (by simp [noMem])
  · intro hlt
    rw [hsz] at hlt
    rw [List.take_length]
    have hp := plainL_all s
    have hg : glossB s = (labelB s && !spB s) := rfl
    cases t1 : plainL s.data.toList
    · have t2 : glossB s = false := by rw [hg, ← hp, t1, Bool.and_false]
      (repeat' (first | refine kA ?_ | refine kB ?_ | ((first | (refine kC (N := 35) rfl (by kernel_rfl) ?_) | refine kD ?_ | refine kE ?_ | (refine kN (gloss_D s) (kP rfl) ?_) | (refine kO (gloss_D s) (kP rfl) ?_) | (refine kN (awake_D) (kP rfl) ?_) | (refine kO (awake_D) (kP rfl) ?_) | refine kF ?_); simp (decide := true) only [go_sem, reduceIte, reduceCtorEq, jA, jB, jC, jD, jE, jF, hlt, t1, t2, hsz]) | (apply kG; (simp (decide := true) only [go_sem, reduceIte, reduceCtorEq, jA, jB, jC, jD, jE, jF, hlt, t1, t2, hsz]; rfl); all_goals (intro hcnd; first | (exact absurd hcnd (by decide)) | skip)) | ((first | refine kH ?_ ?_ | refine kI ?_ ?_) <;> (intro hcnd; simp (decide := true) only [go_sem, reduceIte, reduceCtorEq, jA, jB, jC, jD, jE, jF, hcnd, hlt, t1, t2, hsz]))))
    · have t2 : glossB s = labelB s := by rw [hg, ← hp, t1, Bool.and_true]
      (repeat' (first | refine kA ?_ | refine kB ?_ | ((first | (refine kC (N := 35) rfl (by kernel_rfl) ?_) | refine kD ?_ | refine kE ?_ | (refine kN (gloss_D s) (kP rfl) ?_) | (refine kO (gloss_D s) (kP rfl) ?_) | (refine kN (label_D s) (kP rfl) ?_) | (refine kO (label_D s) (kP rfl) ?_) | (refine kN (awake_D) (kP rfl) ?_) | (refine kO (awake_D) (kP rfl) ?_) | refine kF ?_); simp (decide := true) only [go_sem, reduceIte, reduceCtorEq, jA, jB, jC, jD, jE, jF, hlt, t1, t2, hsz, bb]) | (apply kG; (simp (decide := true) only [go_sem, reduceIte, reduceCtorEq, jA, jB, jC, jD, jE, jF, hlt, t1, t2, hsz, bb]; rfl); all_goals (intro hcnd; first | (exact absurd hcnd (by decide)) | skip)) | ((first | refine kH ?_ ?_ | refine kI ?_ ?_) <;> (intro hcnd; simp (decide := true) only [go_sem, reduceIte, reduceCtorEq, jA, jB, jC, jD, jE, jF, hcnd, hlt, t1, t2, hsz, bb]))))
end Go.Proofs.YtiaamlaibfpdgaaDoor
