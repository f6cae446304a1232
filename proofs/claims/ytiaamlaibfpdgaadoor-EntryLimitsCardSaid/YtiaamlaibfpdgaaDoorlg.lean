/- Entries: the laws (VI). -/
import Derived.Test.YtiaamlaibfpdgaaDoorlb
set_option linter.all false
set_option linter.unusedVariables false
set_option linter.unusedSimpArgs false
open Nat renaming reduceEqDiff → jA, reduceAdd → jB, reduceMul → jC, reduceSub → jD, reduceLeDiff → jE, reduceBEq → jF
namespace Go.Proofs.YtiaamlaibfpdgaaDoor
abbrev kplg19 : List (Nat × Go.Dl.Mode) := [(0, .light), (1, .light), (2, .step), (3, .light), (4, .light), (5, .step), (6, .light), (7, .light)]
abbrev kplg20 : List (Nat × Go.Dl.Mode) := [(0, .light), (1, .light), (2, .step), (3, .light), (4, .light), (5, .light), (6, .light), (7, .light), (8, .light), (9, .light), (10, .light), (11, .light), (12, .light), (13, .light), (14, .light), (15, .light), (16, .light), (17, .light), (18, .light), (19, .step), (20, .light), (21, .light)]
end Go.Proofs.YtiaamlaibfpdgaaDoor
namespace Go.Proofs.YtiaamlaibfpdgaaDoor
open Go.Dl
open Go.Dl renaming dw_seq → kA, dw_block → kB, dw_reg → kC, dw_skip → kD, dw_exit → kE, dw_ret → kF, dw_cond → kG, guardC_f → kH, guardC_t → kI, dw_drw → kJ, dw_weaken → kK, sub_kn → kL, sub_ml → kM
open Go.Dl.CallC renaming mk → kN, light → kO
open Go.Dl.LeL renaming of_eq → kP
attribute [local irreducible] DW DCalls ECalls wk IW

def sN (k : Nat) : Sns := ⟨⟨#[97, UInt8.ofNat (97 + k)]⟩, ⟨#[]⟩⟩
def sensN (n : Nat) : List Sns := (List.range n).map sN
def refN (m : Nat) : List Lnk := (List.range m).map fun i => ⟨1, ((i + 1 : Nat) : Int)⟩
def limE (n m : Nat) : Ent := ⟨9, [2], 20, [], 0, sensN n, [], refN m⟩
theorem sensN_succ (n : Nat) : sensN (n + 1) = sensN n ++ [sN n] := by simp [sensN, List.range_succ]
theorem refN_succ (n : Nat) : refN (n + 1) = refN n ++ [⟨1, ((n + 1 : Nat) : Int)⟩] := by simp [refN, List.range_succ]
theorem sensN_len (n : Nat) : (sensN n).length = n := by simp [sensN]
theorem refN_len (n : Nat) : (refN n).length = n := by simp [refN]
def zS : Sns := ⟨⟨#[122]⟩, ⟨#[]⟩⟩
set_option maxRecDepth 100000 in
theorem lim_all : ∀ n, n < 21 → ∀ m, m < 21 → (1 ≤ n ∧ 1 ≤ m) → if (5 < n ∨ 12 < m) then checkE twoG (limE n m) = 11 else checkE twoG (limE n m) = 0 ∧ ((addE (limE n m) zS).2 == 11) = (n == 5) ∧ ((attE (limE n m) ⟨2, 1⟩).2 == 11) = (m == 12) := by decide +kernel

set_option maxRecDepth 20000 in
set_option maxHeartbeats 8000000 in
theorem lawLimits (n m : Int) : DCalls Tryd.prog 11 [dv (li n), dv (li m)] (dv (lb true)) := by
  have hmax : maxLen = 9223372036854775807 := rfl
  refine dcalls (N := 106) (rs := [.tmp 4]) (by kernel_rfl) Tryd.func11 rfl rfl rfl (by simp) ?_
  cases t1 : decide (n < 1)
  rotate_left
  · (repeat' (first | refine kA ?_ | refine kB ?_ | ((first | (refine kC (N := 106) rfl (by kernel_rfl) ?_) | (apply kJ (id := 13) (N := 106) kplg19; kernel_rfl; rfl; kernel_rfl; (repeat (first | exact Picks.nil | (apply Picks.cons; rfl)))) | (apply kJ (id := 16) (N := 106) kplg20; kernel_rfl; rfl; kernel_rfl; (repeat (first | exact Picks.nil | (apply Picks.cons; rfl)))) | refine kD ?_ | refine kE ?_ | (refine kN (awake_D) (kP rfl) ?_) | (refine kO (awake_D) (kP rfl) ?_) | refine kF ?_); simp (decide := true) only [go_sem, reduceIte, reduceCtorEq, jA, jB, jC, jD, jE, jF, t1]) | (apply kG; (simp (decide := true) only [go_sem, reduceIte, reduceCtorEq, jA, jB, jC, jD, jE, jF, t1]; rfl); all_goals (intro hcnd; first | (exact absurd hcnd (by decide)) | skip)) | ((first | refine kH ?_ ?_ | refine kI ?_ ?_) <;> (intro hcnd; simp (decide := true) only [go_sem, reduceIte, reduceCtorEq, jA, jB, jC, jD, jE, jF, hcnd, t1]))))
  cases t2 : decide ((20 : Int) < n)
  rotate_left
  · (repeat' (first | refine kA ?_ | refine kB ?_ | ((first | (refine kC (N := 106) rfl (by kernel_rfl) ?_) | (apply kJ (id := 13) (N := 106) kplg19; kernel_rfl; rfl; kernel_rfl; (repeat (first | exact Picks.nil | (apply Picks.cons; rfl)))) | (apply kJ (id := 16) (N := 106) kplg20; kernel_rfl; rfl; kernel_rfl; (repeat (first | exact Picks.nil | (apply Picks.cons; rfl)))) | refine kD ?_ | refine kE ?_ | (refine kN (awake_D) (kP rfl) ?_) | (refine kO (awake_D) (kP rfl) ?_) | refine kF ?_); simp (decide := true) only [go_sem, reduceIte, reduceCtorEq, jA, jB, jC, jD, jE, jF, t1, t2]) | (apply kG; (simp (decide := true) only [go_sem, reduceIte, reduceCtorEq, jA, jB, jC, jD, jE, jF, t1, t2]; rfl); all_goals (intro hcnd; first | (exact absurd hcnd (by decide)) | skip)) | ((first | refine kH ?_ ?_ | refine kI ?_ ?_) <;> (intro hcnd; simp (decide := true) only [go_sem, reduceIte, reduceCtorEq, jA, jB, jC, jD, jE, jF, hcnd, t1, t2]))))
  cases t3 : decide (m < 1)
  rotate_left
  · (repeat' (first | refine kA ?_ | refine kB ?_ | ((first | (refine kC (N := 106) rfl (by kernel_rfl) ?_) | (apply kJ (id := 13) (N := 106) kplg19; kernel_rfl; rfl; kernel_rfl; (repeat (first | exact Picks.nil | (apply Picks.cons; rfl)))) | (apply kJ (id := 16) (N := 106) kplg20; kernel_rfl; rfl; kernel_rfl; (repeat (first | exact Picks.nil | (apply Picks.cons; rfl)))) | refine kD ?_ | refine kE ?_ | (refine kN (awake_D) (kP rfl) ?_) | (refine kO (awake_D) (kP rfl) ?_) | refine kF ?_); simp (decide := true) only [go_sem, reduceIte, reduceCtorEq, jA, jB, jC, jD, jE, jF, t1, t2, t3]) | (apply kG; (simp (decide := true) only [go_sem, reduceIte, reduceCtorEq, jA, jB, jC, jD, jE, jF, t1, t2, t3]; rfl); all_goals (intro hcnd; first | (exact absurd hcnd (by decide)) | skip)) | ((first | refine kH ?_ ?_ | refine kI ?_ ?_) <;> (intro hcnd; simp (decide := true) only [go_sem, reduceIte, reduceCtorEq, jA, jB, jC, jD, jE, jF, hcnd, t1, t2, t3]))))
  cases t4 : decide ((20 : Int) < m)
  rotate_left
  · (repeat' (first | refine kA ?_ | refine kB ?_ | ((first | (refine kC (N := 106) rfl (by kernel_rfl) ?_) | (apply kJ (id := 13) (N := 106) kplg19; kernel_rfl; rfl; kernel_rfl; (repeat (first | exact Picks.nil | (apply Picks.cons; rfl)))) | (apply kJ (id := 16) (N := 106) kplg20; kernel_rfl; rfl; kernel_rfl; (repeat (first | exact Picks.nil | (apply Picks.cons; rfl)))) | refine kD ?_ | refine kE ?_ | (refine kN (awake_D) (kP rfl) ?_) | (refine kO (awake_D) (kP rfl) ?_) | refine kF ?_); simp (decide := true) only [go_sem, reduceIte, reduceCtorEq, jA, jB, jC, jD, jE, jF, t1, t2, t3, t4]) | (apply kG; (simp (decide := true) only [go_sem, reduceIte, reduceCtorEq, jA, jB, jC, jD, jE, jF, t1, t2, t3, t4]; rfl); all_goals (intro hcnd; first | (exact absurd hcnd (by decide)) | skip)) | ((first | refine kH ?_ ?_ | refine kI ?_ ?_) <;> (intro hcnd; simp (decide := true) only [go_sem, reduceIte, reduceCtorEq, jA, jB, jC, jD, jE, jF, hcnd, t1, t2, t3, t4]))))
  simp only [decide_eq_false_iff_not] at t1 t2 t3 t4
  obtain ⟨N, rfl⟩ : ∃ k : Nat, n = (k : Int) := ⟨n.toNat, by omega⟩
  obtain ⟨M, rfl⟩ : ∃ k : Nat, m = (k : Int) := ⟨m.toNat, by omega⟩
  have hall := lim_all N (by omega) M (by omega) ⟨by omega, by omega⟩
  replace t1 : decide ((N : Int) < 1) = false := by simp; omega
  replace t2 : decide ((20 : Int) < (N : Int)) = false := by simp; omega
  replace t3 : decide ((M : Int) < 1) = false := by simp; omega
  replace t4 : decide ((20 : Int) < (M : Int)) = false := by simp; omega
  have hN : N ≤ 20 := by simp at t2; omega
  have hM : M ≤ 20 := by simp at t4; omega
  (repeat' (first | refine kA ?_ | refine kB ?_ | ((first | (refine kC (N := 106) rfl (by kernel_rfl) ?_) | (apply kJ (id := 13) (N := 106) kplg19; kernel_rfl; rfl; kernel_rfl; (repeat (first | exact Picks.nil | (apply Picks.cons; rfl)))) | (apply kJ (id := 16) (N := 106) kplg20; kernel_rfl; rfl; kernel_rfl; (repeat (first | exact Picks.nil | (apply Picks.cons; rfl)))) | refine kD ?_ | refine kE ?_); simp (decide := true) only [go_sem, reduceIte, reduceCtorEq, jA, jB, jC, jD, jE, jF, t1, t2, t3, t4]) | (apply kG; (simp (decide := true) only [go_sem, reduceIte, reduceCtorEq, jA, jB, jC, jD, jE, jF, t1, t2, t3, t4]; rfl); all_goals (intro hcnd; first | (exact absurd hcnd (by decide)) | skip)) | ((first | refine kH ?_ ?_ | refine kI ?_ ?_) <;> (intro hcnd; simp (decide := true) only [go_sem, reduceIte, reduceCtorEq, jA, jB, jC, jD, jE, jF, hcnd, t1, t2, t3, t4]))))
  refine dw_ownAt 5 5 50 2 [] (r := [.c (li 9), .ex 1 [[li 2]], .c (li 20), .ex 1 [], .c (li 0), .ex 2 [], .ex 2 [], .ex 2 []]) (by simp (decide := true) only [go_sem, reduceIte, reduceCtorEq, jA, jB, jC, jD, jE, jF]) (by rfl) ?_
  refine dw_after (fun _ : Unit => kn 106 [(0, dv (li N)), (1, dv (li M)), (5, .one (.bx 5 8 0 0))] (ml [(5, [[.c (li 9), .ex 1 [[li 2]], .c (li 20), .ex 1 [], .c (li 0), .own 50 2 ((sensN N).map Sns.enc), .ex 2 [], .ex 2 []]])])) (fun _ => True) ?_ ?_
  · refine dw_rng0 (List.range N) (fun k => kn 106 [(0, dv (li N)), (1, dv (li M)), (5, .one (.bx 5 8 0 0)), (6, dv (li k))] (ml [(5, [[.c (li 9), .ex 1 [[li 2]], .c (li 20), .ex 1 [], .c (li 0), .own 50 2 ((sensN k).map Sns.enc), .ex 2 [], .ex 2 []]])])) (by rw [List.length_range]; omega) (kM rfl (by simp (decide := true) only [go_sem, reduceIte, reduceCtorEq, jA, jB, jC, jD, jE, jF]) (by simp (decide := true) only [go_sem, reduceIte, reduceCtorEq, jA, jB, jC, jD, jE, jF, sensN, List.range_zero, List.map_nil])) ?_ ?_
    · intro k y hy hk hm htk hlt hw
      rw [List.length_range] at hlt hk
      have r1 : (((sensN k).length + 1) * 32 ≤ 140737488355328) = True := eq_true (by rw [sensN_len]; omega)
      have hst : (sensN (k + 1)).map Sns.enc = (sensN k).map Sns.enc ++ [(sN k).enc] := by rw [sensN_succ, List.map_append]; rfl
      have w1 : IntKind.i64.wrap (97 + (k : Int)) = ((97 + k : Nat) : Int) := by rw [wrap_i64 (by omega) (by omega)]; omega
      have w2 : IntKind.u8.wrap ((97 + k : Nat) : Int) = ((97 + k : Nat) : Int) := wrap_u8 (by omega) (by omega)
      (repeat' (first | refine kA ?_ | refine kB ?_ | ((first | (refine kC (N := 106) rfl (by kernel_rfl) ?_) | (apply kJ (id := 13) (N := 106) kplg19; kernel_rfl; rfl; kernel_rfl; (repeat (first | exact Picks.nil | (apply Picks.cons; rfl)))) | (apply kJ (id := 16) (N := 106) kplg20; kernel_rfl; rfl; kernel_rfl; (repeat (first | exact Picks.nil | (apply Picks.cons; rfl)))) | refine kD ?_ | refine kE ?_); simp (decide := true) only [go_sem, reduceIte, reduceCtorEq, jA, jB, jC, jD, jE, jF, hlt, hw, w1, w2, r1]) | (apply kG; (simp (decide := true) only [go_sem, reduceIte, reduceCtorEq, jA, jB, jC, jD, jE, jF, hlt, hw, w1, w2, r1]; rfl); all_goals (intro hcnd; first | (exact absurd hcnd (by decide)) | skip)) | ((first | refine kH ?_ ?_ | refine kI ?_ ?_) <;> (intro hcnd; simp (decide := true) only [go_sem, reduceIte, reduceCtorEq, jA, jB, jC, jD, jE, jF, hcnd, hlt, hw, w1, w2, r1]))))
      have h97 : UInt8.ofNat (Int.toNat 97) = 97 := rfl
      exact kM rfl (by simp (decide := true) only [go_sem, reduceIte, reduceCtorEq, jA, jB, jC, jD, jE, jF]) (by simp (decide := true) only [go_sem, reduceIte, reduceCtorEq, jA, jB, jC, jD, jE, jF, hst, sN, Sns.enc, h97])
    · intro hlt
      rw [List.length_range] at hlt ⊢
      (repeat' (first | refine kA ?_ | refine kB ?_ | ((first | (refine kC (N := 106) rfl (by kernel_rfl) ?_) | (apply kJ (id := 13) (N := 106) kplg19; kernel_rfl; rfl; kernel_rfl; (repeat (first | exact Picks.nil | (apply Picks.cons; rfl)))) | (apply kJ (id := 16) (N := 106) kplg20; kernel_rfl; rfl; kernel_rfl; (repeat (first | exact Picks.nil | (apply Picks.cons; rfl)))) | refine kD ?_ | refine kE ?_); simp (decide := true) only [go_sem, reduceIte, reduceCtorEq, jA, jB, jC, jD, jE, jF, hlt]) | (apply kG; (simp (decide := true) only [go_sem, reduceIte, reduceCtorEq, jA, jB, jC, jD, jE, jF, hlt]; rfl); all_goals (intro hcnd; first | (exact absurd hcnd (by decide)) | skip)) | ((first | refine kH ?_ ?_ | refine kI ?_ ?_) <;> (intro hcnd; simp (decide := true) only [go_sem, reduceIte, reduceCtorEq, jA, jB, jC, jD, jE, jF, hcnd, hlt]))))
      exact ⟨(), kM rfl (by simp (decide := true) only [go_sem, reduceIte, reduceCtorEq, jA, jB, jC, jD, jE, jF]) (by simp (decide := true) only [go_sem, reduceIte, reduceCtorEq, jA, jB, jC, jD, jE, jF])⟩
  rintro _ _
  refine dw_ownAt 5 7 57 2 [] (r := [.c (li 9), .ex 1 [[li 2]], .c (li 20), .ex 1 [], .c (li 0), .own 50 2 ((sensN N).map Sns.enc), .ex 2 [], .ex 2 []]) (by simp (decide := true) only [go_sem, reduceIte, reduceCtorEq, jA, jB, jC, jD, jE, jF]) (by rfl) ?_
  simp (decide := true) only [go_sem, reduceIte, reduceCtorEq, jA, jB, jC, jD, jE, jF]
  (repeat' (first | refine kA ?_ | refine kB ?_ | ((first | (refine kC (N := 106) rfl (by kernel_rfl) ?_) | (apply kJ (id := 13) (N := 106) kplg19; kernel_rfl; rfl; kernel_rfl; (repeat (first | exact Picks.nil | (apply Picks.cons; rfl)))) | (apply kJ (id := 16) (N := 106) kplg20; kernel_rfl; rfl; kernel_rfl; (repeat (first | exact Picks.nil | (apply Picks.cons; rfl)))) | refine kD ?_ | refine kE ?_); simp (decide := true) only [go_sem, reduceIte, reduceCtorEq, jA, jB, jC, jD, jE, jF]) | (apply kG; (simp (decide := true) only [go_sem, reduceIte, reduceCtorEq, jA, jB, jC, jD, jE, jF]; rfl); all_goals (intro hcnd; first | (exact absurd hcnd (by decide)) | skip)) | ((first | refine kH ?_ ?_ | refine kI ?_ ?_) <;> (intro hcnd; simp (decide := true) only [go_sem, reduceIte, reduceCtorEq, jA, jB, jC, jD, jE, jF, hcnd]))))
  refine dw_after (fun _ : Unit => kn 106 [(0, dv (li N)), (1, dv (li M)), (5, .one (.bx 5 8 0 0))] (ml [(5, [[.c (li 9), .ex 1 [[li 2]], .c (li 20), .ex 1 [], .c (li 0), .own 50 2 ((sensN N).map Sns.enc), .ex 2 [], .own 57 2 ((refN M).map Lnk.enc)]])])) (fun _ => True) ?_ ?_
  · refine dw_rng0 (List.range M) (fun k => kn 106 [(0, dv (li N)), (1, dv (li M)), (5, .one (.bx 5 8 0 0)), (7, dv (li k))] (ml [(5, [[.c (li 9), .ex 1 [[li 2]], .c (li 20), .ex 1 [], .c (li 0), .own 50 2 ((sensN N).map Sns.enc), .ex 2 [], .own 57 2 ((refN k).map Lnk.enc)]])])) (by rw [List.length_range]; omega) (kM rfl (by simp (decide := true) only [go_sem, reduceIte, reduceCtorEq, jA, jB, jC, jD, jE, jF]) (by simp (decide := true) only [go_sem, reduceIte, reduceCtorEq, jA, jB, jC, jD, jE, jF, refN, List.range_zero, List.map_nil])) ?_ ?_
    · intro k y hy hk hm htk hlt hw
      rw [List.length_range] at hlt hk
      have r1 : (((refN k).length + 1) * 16 ≤ 140737488355328) = True := eq_true (by rw [refN_len]; omega)
      have hst : (refN (k + 1)).map Lnk.enc = (refN k).map Lnk.enc ++ [[li 1, li ((k + 1 : Nat) : Int)]] := by rw [refN_succ, List.map_append]; rfl
      (repeat' (first | refine kA ?_ | refine kB ?_ | ((first | (refine kC (N := 106) rfl (by kernel_rfl) ?_) | (apply kJ (id := 13) (N := 106) kplg19; kernel_rfl; rfl; kernel_rfl; (repeat (first | exact Picks.nil | (apply Picks.cons; rfl)))) | (apply kJ (id := 16) (N := 106) kplg20; kernel_rfl; rfl; kernel_rfl; (repeat (first | exact Picks.nil | (apply Picks.cons; rfl)))) | refine kD ?_ | refine kE ?_); simp (decide := true) only [go_sem, reduceIte, reduceCtorEq, jA, jB, jC, jD, jE, jF, hlt, hw, r1]) | (apply kG; (simp (decide := true) only [go_sem, reduceIte, reduceCtorEq, jA, jB, jC, jD, jE, jF, hlt, hw, r1]; rfl); all_goals (intro hcnd; first | (exact absurd hcnd (by decide)) | skip)) | ((first | refine kH ?_ ?_ | refine kI ?_ ?_) <;> (intro hcnd; simp (decide := true) only [go_sem, reduceIte, reduceCtorEq, jA, jB, jC, jD, jE, jF, hcnd, hlt, hw, r1]))))
      exact kM rfl (by simp (decide := true) only [go_sem, reduceIte, reduceCtorEq, jA, jB, jC, jD, jE, jF]) (by simp (decide := true) only [go_sem, reduceIte, reduceCtorEq, jA, jB, jC, jD, jE, jF, hst])
    · intro hlt
      rw [List.length_range] at hlt ⊢
      (repeat' (first | refine kA ?_ | refine kB ?_ | ((first | (refine kC (N := 106) rfl (by kernel_rfl) ?_) | (apply kJ (id := 13) (N := 106) kplg19; kernel_rfl; rfl; kernel_rfl; (repeat (first | exact Picks.nil | (apply Picks.cons; rfl)))) | (apply kJ (id := 16) (N := 106) kplg20; kernel_rfl; rfl; kernel_rfl; (repeat (first | exact Picks.nil | (apply Picks.cons; rfl)))) | refine kD ?_ | refine kE ?_); simp (decide := true) only [go_sem, reduceIte, reduceCtorEq, jA, jB, jC, jD, jE, jF, hlt]) | (apply kG; (simp (decide := true) only [go_sem, reduceIte, reduceCtorEq, jA, jB, jC, jD, jE, jF, hlt]; rfl); all_goals (intro hcnd; first | (exact absurd hcnd (by decide)) | skip)) | ((first | refine kH ?_ ?_ | refine kI ?_ ?_) <;> (intro hcnd; simp (decide := true) only [go_sem, reduceIte, reduceCtorEq, jA, jB, jC, jD, jE, jF, hcnd, hlt]))))
      exact ⟨(), kM rfl (by simp (decide := true) only [go_sem, reduceIte, reduceCtorEq, jA, jB, jC, jD, jE, jF]) (by simp (decide := true) only [go_sem, reduceIte, reduceCtorEq, jA, jB, jC, jD, jE, jF])⟩
  rintro _ _
  refine dw_exc 5 (by simp (decide := true) only [go_sem, reduceIte, reduceCtorEq, jA, jB, jC, jD, jE, jF]; rfl) ?_
  simp (decide := true) only [go_sem, reduceIte, reduceCtorEq, jA, jB, jC, jD, jE, jF]
  have hM1 : MidE (limE N M) := ⟨by simp [limE], by simp [limE], by simp [limE], by simp [limE, sensN_len]; omega, by simp [limE], by simp [limE, refN_len]; omega, fun s hs => by
    obtain ⟨i, _, rfl⟩ := List.mem_map.1 (show s ∈ (List.range N).map sN from hs)
    exact ⟨by simp [sN, ByteArray.size], by simp [sN, ByteArray.size]⟩⟩
  have h0 := two_D
  have hC := check_D twoG (limE N M)
  have hc := copy_D (limE N M) hM1
  have ha := add_D (limE N M) zS
  have hb := attest_D (limE N M) ⟨2, 1⟩ hM1.refs
  have e1 : (limE N M).row = [.c (li 9), .c (.sl 1 [[li 2]]), .c (li 20), .c (.sl 1 []), .c (li 0), .c (.sl 2 ((sensN N).map Sns.enc)), .c (.sl 2 []), .c (.sl 2 ((refN M).map Lnk.enc))] := rfl
  rw [e1] at hC hc ha hb
  simp only [invRow, zS, Sns.row, Lnk.row] at h0 hC ha hb
  cases t5 : decide ((5 : Int) < (N : Int))
  · cases t6 : decide ((12 : Int) < (M : Int))
    · rw [if_neg (by simp at t5 t6; omega)] at hall
      obtain ⟨q1, q2, q3⟩ := hall
      rw [q1] at hC
      simp only [zS] at q2
      have q4 : ((N : Int) == 5) = (N == 5) := by rw [Bool.eq_iff_iff]; simp; omega
      have q5 : ((M : Int) == 12) = (M == 12) := by rw [Bool.eq_iff_iff]; simp; omega
      (repeat' (first | refine kA ?_ | refine kB ?_ | ((first | (refine kC (N := 106) rfl (by kernel_rfl) ?_) | (apply kJ (id := 13) (N := 106) kplg19; kernel_rfl; rfl; kernel_rfl; (repeat (first | exact Picks.nil | (apply Picks.cons; rfl)))) | (apply kJ (id := 16) (N := 106) kplg20; kernel_rfl; rfl; kernel_rfl; (repeat (first | exact Picks.nil | (apply Picks.cons; rfl)))) | refine kD ?_ | refine kE ?_ | (refine kN (h0) (kP rfl) ?_) | (refine kO (h0) (kP rfl) ?_) | (refine kN (hc) (kP rfl) ?_) | (refine kO (hc) (kP rfl) ?_) | (refine kN (hC) (kP rfl) ?_) | (refine kO (hC) (kP rfl) ?_) | (refine kN (ha) (kP rfl) ?_) | (refine kO (ha) (kP rfl) ?_) | (refine kN (hb) (kP rfl) ?_) | (refine kO (hb) (kP rfl) ?_) | (refine kN (awake_D) (kP rfl) ?_) | (refine kO (awake_D) (kP rfl) ?_) | refine kF ?_); simp (decide := true) only [go_sem, reduceIte, reduceCtorEq, jA, jB, jC, jD, jE, jF, t5, t6, q2, q3, q4, q5, bb, ii, invRow, Ent.row]) | (apply kG; (simp (decide := true) only [go_sem, reduceIte, reduceCtorEq, jA, jB, jC, jD, jE, jF, t5, t6, q2, q3, q4, q5, bb, ii, invRow, Ent.row]; rfl); all_goals (intro hcnd; first | (exact absurd hcnd (by decide)) | skip)) | ((first | refine kH ?_ ?_ | refine kI ?_ ?_) <;> (intro hcnd; simp (decide := true) only [go_sem, reduceIte, reduceCtorEq, jA, jB, jC, jD, jE, jF, hcnd, t5, t6, q2, q3, q4, q5, bb, ii, invRow, Ent.row]))))
    · rw [if_pos (by simp at t6; omega)] at hall
      rw [hall] at hC
      (repeat' (first | refine kA ?_ | refine kB ?_ | ((first | (refine kC (N := 106) rfl (by kernel_rfl) ?_) | (apply kJ (id := 13) (N := 106) kplg19; kernel_rfl; rfl; kernel_rfl; (repeat (first | exact Picks.nil | (apply Picks.cons; rfl)))) | (apply kJ (id := 16) (N := 106) kplg20; kernel_rfl; rfl; kernel_rfl; (repeat (first | exact Picks.nil | (apply Picks.cons; rfl)))) | refine kD ?_ | refine kE ?_ | (refine kN (h0) (kP rfl) ?_) | (refine kO (h0) (kP rfl) ?_) | (refine kN (hC) (kP rfl) ?_) | (refine kO (hC) (kP rfl) ?_) | (refine kN (awake_D) (kP rfl) ?_) | (refine kO (awake_D) (kP rfl) ?_) | refine kF ?_); simp (decide := true) only [go_sem, reduceIte, reduceCtorEq, jA, jB, jC, jD, jE, jF, t5, t6, ii, invRow]) | (apply kG; (simp (decide := true) only [go_sem, reduceIte, reduceCtorEq, jA, jB, jC, jD, jE, jF, t5, t6, ii, invRow]; rfl); all_goals (intro hcnd; first | (exact absurd hcnd (by decide)) | skip)) | ((first | refine kH ?_ ?_ | refine kI ?_ ?_) <;> (intro hcnd; simp (decide := true) only [go_sem, reduceIte, reduceCtorEq, jA, jB, jC, jD, jE, jF, hcnd, t5, t6, ii, invRow]))))
  · rw [if_pos (by simp at t5; omega)] at hall
    rw [hall] at hC
    (repeat' (first | refine kA ?_ | refine kB ?_ | ((first | (refine kC (N := 106) rfl (by kernel_rfl) ?_) | (apply kJ (id := 13) (N := 106) kplg19; kernel_rfl; rfl; kernel_rfl; (repeat (first | exact Picks.nil | (apply Picks.cons; rfl)))) | (apply kJ (id := 16) (N := 106) kplg20; kernel_rfl; rfl; kernel_rfl; (repeat (first | exact Picks.nil | (apply Picks.cons; rfl)))) | refine kD ?_ | refine kE ?_ | (refine kN (h0) (kP rfl) ?_) | (refine kO (h0) (kP rfl) ?_) | (refine kN (hC) (kP rfl) ?_) | (refine kO (hC) (kP rfl) ?_) | (refine kN (awake_D) (kP rfl) ?_) | (refine kO (awake_D) (kP rfl) ?_) | refine kF ?_); simp (decide := true) only [go_sem, reduceIte, reduceCtorEq, jA, jB, jC, jD, jE, jF, t5, ii, invRow]) | (apply kG; (simp (decide := true) only [go_sem, reduceIte, reduceCtorEq, jA, jB, jC, jD, jE, jF, t5, ii, invRow]; rfl); all_goals (intro hcnd; first | (exact absurd hcnd (by decide)) | skip)) | ((first | refine kH ?_ ?_ | refine kI ?_ ?_) <;> (intro hcnd; simp (decide := true) only [go_sem, reduceIte, reduceCtorEq, jA, jB, jC, jD, jE, jF, hcnd, t5, ii, invRow]))))
end Go.Proofs.YtiaamlaibfpdgaaDoor
