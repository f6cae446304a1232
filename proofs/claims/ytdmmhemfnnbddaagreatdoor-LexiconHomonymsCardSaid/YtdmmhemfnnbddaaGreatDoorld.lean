/- Lexicons: the laws (IV). -/
import Derived.Test.YtdmmhemfnnbddaaGreatDoorla
set_option linter.all false
set_option linter.unusedVariables false
set_option linter.unusedSimpArgs false
namespace Go.Proofs.YtdmmhemfnnbddaaGreatDoor
abbrev kpld21 : List (Nat × Go.Dl.Mode) := [(0, .light), (1, .light), (2, .light), (3, .light), (4, .light), (5, .light), (6, .light), (7, .light), (8, .light), (9, .light), (10, .light), (11, .light), (12, .step)]
abbrev kpld22 : List (Nat × Go.Dl.Mode) := [(0, .light), (1, .light), (2, .light), (3, .light), (4, .light), (5, .light), (6, .light), (7, .light), (8, .light), (9, .light), (10, .light), (11, .light), (12, .light), (13, .light), (14, .light), (15, .step), (16, .light)]
abbrev kpld23 : List (Nat × Go.Dl.Mode) := [(0, .light), (1, .light), (2, .light), (3, .light), (4, .light), (5, .light), (6, .light), (7, .light), (8, .light), (9, .light), (10, .light), (11, .light)]
end Go.Proofs.YtdmmhemfnnbddaaGreatDoor
namespace Go.Proofs.YtdmmhemfnnbddaaGreatDoor
open Go.Dl
open Go.Dl renaming dw_seq → kA, dw_block → kB, dw_reg → kC, dw_skip → kD, dw_exit → kE, dw_ret → kF, dw_cond → kG, guardC_f → kH, guardC_t → kI, dw_drw → kJ, dw_weaken → kK, sub_kn → kL, sub_ml → kM
open Go.Dl.CallC renaming mk → kN, light → kO
open Go.Dl.LeL renaming of_eq → kP
open S (usort)
attribute [local irreducible] DW DCalls ECalls wk IW

set_option maxRecDepth 20000 in
set_option maxHeartbeats 8000000 in
theorem lawHomonyms (g : List Phon) (l : List Ent) : DCalls Tryz.prog 11 [.agg (lexRow g l)] (dv (lb true)) := by
  have hmax : maxLen = 9223372036854775807 := rfl
  have hR := right_D g l
  refine dcalls (N := 77) (rs := [.tmp 2]) (by kernel_rfl) Tryz.func11 rfl rfl rfl (by simp) ?_
  cases t1 : rightB g l
  · rw [t1] at hR
    (repeat' (first | refine kA ?_ | refine kB ?_ | ((first | (refine kC (N := 77) rfl (by kernel_rfl) ?_) | (apply kJ (id := 10) (N := 77) kpld21; kernel_rfl; rfl; kernel_rfl; (repeat (first | exact Picks.nil | (apply Picks.cons; rfl)))) | (apply kJ (id := 14) (N := 77) kpld22; kernel_rfl; rfl; kernel_rfl; (repeat (first | exact Picks.nil | (apply Picks.cons; rfl)))) | (apply kJ (id := 19) (N := 77) kpld23; kernel_rfl; rfl; kernel_rfl; (repeat (first | exact Picks.nil | (apply Picks.cons; rfl)))) | refine kD ?_ | refine kE ?_ | (refine kN (hR) (kP rfl) ?_) | (refine kO (hR) (kP rfl) ?_) | (refine kN (awake_D) (kP rfl) ?_) | (refine kO (awake_D) (kP rfl) ?_) | refine kF ?_); simp +decide only [go_sem]) | (apply kG; (simp +decide only [go_sem]; rfl); all_goals (intro hcnd; first | (exact absurd hcnd (by decide)) | skip))))
  rw [t1] at hR
  have hr := rightB_is t1
  have hlen := hr.few.len
  have hmf : ∀ e ∈ l, MidF e := fun e he => midF_of (hr.few.mid e he)
  have hfl : ∀ e ∈ l, e.form.length ≤ maxLen := fun e he => by have := (hr.few.each e he).form; omega
  (repeat' (first | refine kA ?_ | refine kB ?_ | ((first | (refine kC (N := 77) rfl (by kernel_rfl) ?_) | (apply kJ (id := 10) (N := 77) kpld21; kernel_rfl; rfl; kernel_rfl; (repeat (first | exact Picks.nil | (apply Picks.cons; rfl)))) | (apply kJ (id := 14) (N := 77) kpld22; kernel_rfl; rfl; kernel_rfl; (repeat (first | exact Picks.nil | (apply Picks.cons; rfl)))) | (apply kJ (id := 19) (N := 77) kpld23; kernel_rfl; rfl; kernel_rfl; (repeat (first | exact Picks.nil | (apply Picks.cons; rfl)))) | refine kD ?_ | refine kE ?_ | (refine kN (hR) (kP rfl) ?_) | (refine kO (hR) (kP rfl) ?_)); simp +decide only [go_sem]) | (apply kG; (simp +decide only [go_sem]; rfl); all_goals (intro hcnd; first | (exact absurd hcnd (by decide)) | skip))))
  refine dw_rng0 l (fun k => kn 77 [(1, .one (.bx 1 2 0 0)), (13, dv (li l.length)), (14, dv (li k))] (ml [(1, [lexRow g l])])) (by omega) (kM rfl (by simp +decide only [go_sem]) (by simp +decide only [go_sem])) ?_ ?_
  · intro k x hx hk hm htk hlt hw
    have hH := hom_D l x.id (by omega) hfl
    rw [hom_eq hr.right.up hx] at hH
    have hB := byForm_D l x.form (by omega) hmf
    have hle : (l.countP (fun y => decide (y.form = x.form))) ≤ l.length := List.countP_le_length
    have hle2 : ((l.take k).countP (fun y => decide (y.form = x.form))) ≤ l.length := Nat.le_trans List.countP_le_length (by rw [List.length_take]; omega)
    (repeat' (first | refine kA ?_ | refine kB ?_ | ((first | (refine kC (N := 77) rfl (by kernel_rfl) ?_) | (apply kJ (id := 10) (N := 77) kpld21; kernel_rfl; rfl; kernel_rfl; (repeat (first | exact Picks.nil | (apply Picks.cons; rfl)))) | (apply kJ (id := 14) (N := 77) kpld22; kernel_rfl; rfl; kernel_rfl; (repeat (first | exact Picks.nil | (apply Picks.cons; rfl)))) | (apply kJ (id := 19) (N := 77) kpld23; kernel_rfl; rfl; kernel_rfl; (repeat (first | exact Picks.nil | (apply Picks.cons; rfl)))) | refine kD ?_ | refine kE ?_); simp +decide only [go_sem, hlt, hw]) | (apply kG; (simp +decide only [go_sem, hlt, hw]; rfl); all_goals (intro hcnd; first | (exact absurd hcnd (by decide)) | skip))))
    refine dw_after (fun _ : Unit => kn 77 [(1, .one (.bx 1 2 0 0)), (3, dv (li k)), (4, dv (li ((l.countP (fun y => decide (y.form = x.form)) : Nat) : Int))), (5, dv (li (((l.take k).countP (fun y => decide (y.form = x.form)) : Nat) : Int))), (13, dv (li l.length)), (14, dv (li k))] (ml [(1, [lexRow g l])])) (fun _ => True) ?_ ?_
    · refine dw_rng0 l (fun j => kn 77 [(1, .one (.bx 1 2 0 0)), (3, dv (li k)), (4, dv (li (((l.take j).countP (fun y => decide (y.form = x.form)) : Nat) : Int))), (5, dv (li ((((l.take k).take j).countP (fun y => decide (y.form = x.form)) : Nat) : Int))), (13, dv (li l.length)), (14, dv (li k)), (19, dv (li l.length)), (20, dv (li j))] (ml [(1, [lexRow g l])])) (by omega) (kM rfl (by simp +decide only [go_sem, List.take_zero, List.countP_nil]) (by simp +decide only [go_sem])) ?_ ?_
      · intro j y hy hj hmy htj hltj hwj
        have hS := sameI_D y.form x.form (hfl y hmy)
        have c1 : (l.take (j + 1)).countP (fun y => decide (y.form = x.form)) = (l.take j).countP (fun y => decide (y.form = x.form)) + if decide (y.form = x.form) = true then 1 else 0 := by rw [htj, countP_snoc]
        have c0 : (l.take j).countP (fun y => decide (y.form = x.form)) ≤ l.length := Nat.le_trans List.countP_le_length (by rw [List.length_take]; omega)
        have c3 : ((l.take k).take j).countP (fun y => decide (y.form = x.form)) ≤ l.length := Nat.le_trans List.countP_le_length (by rw [List.length_take, List.length_take]; omega)
        have c2 : ((l.take k).take (j + 1)).countP (fun y => decide (y.form = x.form)) = ((l.take k).take j).countP (fun y => decide (y.form = x.form)) + if j < k ∧ decide (y.form = x.form) = true then 1 else 0 := by
          by_cases hjk : j < k
          · have : (l.take k)[j]? = some y := by rw [List.getElem?_take, if_pos hjk]; exact hy
            rw [take_snoc this, countP_snoc]
            simp [hjk]
          · have e1 : (l.take k).take (j + 1) = l.take k := List.take_of_length_le (by rw [List.length_take]; omega)
            have e2 : (l.take k).take j = l.take k := List.take_of_length_le (by rw [List.length_take]; omega)
            rw [e1, e2]
            simp [hjk]
        cases t2 : decide (y.form = x.form)
        · rw [t2] at hS c1 c2
          simp only [Bool.false_eq_true, and_false, if_false, Nat.add_zero] at c1 c2
          (repeat' (first | refine kA ?_ | refine kB ?_ | ((first | (refine kC (N := 77) rfl (by kernel_rfl) ?_) | (apply kJ (id := 10) (N := 77) kpld21; kernel_rfl; rfl; kernel_rfl; (repeat (first | exact Picks.nil | (apply Picks.cons; rfl)))) | (apply kJ (id := 14) (N := 77) kpld22; kernel_rfl; rfl; kernel_rfl; (repeat (first | exact Picks.nil | (apply Picks.cons; rfl)))) | (apply kJ (id := 19) (N := 77) kpld23; kernel_rfl; rfl; kernel_rfl; (repeat (first | exact Picks.nil | (apply Picks.cons; rfl)))) | refine kD ?_ | refine kE ?_ | (refine kN (hS) (kP rfl) ?_) | (refine kO (hS) (kP rfl) ?_)); simp +decide only [go_sem, hltj, hwj, hx, hy, Ent.enc]) | (apply kG; (simp +decide only [go_sem, hltj, hwj, hx, hy, Ent.enc]; rfl); all_goals (intro hcnd; first | (exact absurd hcnd (by decide)) | skip))))
          exact kM rfl (by simp +decide only [go_sem, c1, c2]) (by simp +decide only [go_sem])
        · rw [t2] at hS c1 c2
          have hN := rHasN_D (byForm l x.form) y.id (by have := usort_lenI (idsOf l fun e => hasA (formsL e) x.form); have := idsOf_len l (fun e => hasA (formsL e) x.form); unfold byForm; omega)
          rw [form_in hmy (by simpa using t2)] at hN
          have w1 : IntKind.i64.wrap ((((l.take j).countP (fun y => decide (y.form = x.form)) : Nat) : Int) + 1) = (((l.take (j + 1)).countP (fun y => decide (y.form = x.form)) : Nat) : Int) := by
            rw [wrap_i64 (by omega) (by omega), c1, if_pos rfl]; omega
          cases t3 : decide ((j : Int) < (k : Int))
          · rw [if_neg (by simp at t3; omega), Nat.add_zero] at c2
            (repeat' (first | refine kA ?_ | refine kB ?_ | ((first | (refine kC (N := 77) rfl (by kernel_rfl) ?_) | (apply kJ (id := 10) (N := 77) kpld21; kernel_rfl; rfl; kernel_rfl; (repeat (first | exact Picks.nil | (apply Picks.cons; rfl)))) | (apply kJ (id := 14) (N := 77) kpld22; kernel_rfl; rfl; kernel_rfl; (repeat (first | exact Picks.nil | (apply Picks.cons; rfl)))) | (apply kJ (id := 19) (N := 77) kpld23; kernel_rfl; rfl; kernel_rfl; (repeat (first | exact Picks.nil | (apply Picks.cons; rfl)))) | refine kD ?_ | refine kE ?_ | (refine kN (hS) (kP rfl) ?_) | (refine kO (hS) (kP rfl) ?_) | (refine kN (hB) (kP rfl) ?_) | (refine kO (hB) (kP rfl) ?_) | (refine kN (hN) (kP rfl) ?_) | (refine kO (hN) (kP rfl) ?_)); simp +decide only [go_sem, hltj, hwj, hx, hy, t3, w1, Ent.enc]) | (apply kG; (simp +decide only [go_sem, hltj, hwj, hx, hy, t3, w1, Ent.enc]; rfl); all_goals (intro hcnd; first | (exact absurd hcnd (by decide)) | skip))))
            exact kM rfl (by simp +decide only [go_sem, c2]) (by simp +decide only [go_sem])
          · have w2 : IntKind.i64.wrap (((((l.take k).take j).countP (fun y => decide (y.form = x.form)) : Nat) : Int) + 1) = ((((l.take k).take (j + 1)).countP (fun y => decide (y.form = x.form)) : Nat) : Int) := by
              rw [wrap_i64 (by omega) (by omega), c2, if_pos ⟨by simpa using t3, rfl⟩]; omega
            (repeat' (first | refine kA ?_ | refine kB ?_ | ((first | (refine kC (N := 77) rfl (by kernel_rfl) ?_) | (apply kJ (id := 10) (N := 77) kpld21; kernel_rfl; rfl; kernel_rfl; (repeat (first | exact Picks.nil | (apply Picks.cons; rfl)))) | (apply kJ (id := 14) (N := 77) kpld22; kernel_rfl; rfl; kernel_rfl; (repeat (first | exact Picks.nil | (apply Picks.cons; rfl)))) | (apply kJ (id := 19) (N := 77) kpld23; kernel_rfl; rfl; kernel_rfl; (repeat (first | exact Picks.nil | (apply Picks.cons; rfl)))) | refine kD ?_ | refine kE ?_ | (refine kN (hS) (kP rfl) ?_) | (refine kO (hS) (kP rfl) ?_) | (refine kN (hB) (kP rfl) ?_) | (refine kO (hB) (kP rfl) ?_) | (refine kN (hN) (kP rfl) ?_) | (refine kO (hN) (kP rfl) ?_)); simp +decide only [go_sem, hltj, hwj, hx, hy, t3, w1, w2, Ent.enc]) | (apply kG; (simp +decide only [go_sem, hltj, hwj, hx, hy, t3, w1, w2, Ent.enc]; rfl); all_goals (intro hcnd; first | (exact absurd hcnd (by decide)) | skip))))
            exact kM rfl (by simp +decide only [go_sem]) (by simp +decide only [go_sem])
      · intro hltj
        have hkk : (l.take k).take l.length = l.take k := List.take_of_length_le (by rw [List.length_take]; omega)
        (repeat' (first | refine kA ?_ | refine kB ?_ | ((first | (refine kC (N := 77) rfl (by kernel_rfl) ?_) | (apply kJ (id := 10) (N := 77) kpld21; kernel_rfl; rfl; kernel_rfl; (repeat (first | exact Picks.nil | (apply Picks.cons; rfl)))) | (apply kJ (id := 14) (N := 77) kpld22; kernel_rfl; rfl; kernel_rfl; (repeat (first | exact Picks.nil | (apply Picks.cons; rfl)))) | (apply kJ (id := 19) (N := 77) kpld23; kernel_rfl; rfl; kernel_rfl; (repeat (first | exact Picks.nil | (apply Picks.cons; rfl)))) | refine kD ?_ | refine kE ?_); simp +decide only [go_sem, hltj]) | (apply kG; (simp +decide only [go_sem, hltj]; rfl); all_goals (intro hcnd; first | (exact absurd hcnd (by decide)) | skip))))
        exact ⟨(), kM rfl (by simp +decide only [go_sem, List.take_length, hkk]) (by simp +decide only [go_sem])⟩
    rintro _ _
    cases t4 : ((l.countP (fun y => decide (y.form = x.form)) : Nat) : Int) == 1
    · rw [if_neg (by simp at t4; omega)] at hH
      have w1 : IntKind.i64.wrap ((((l.take k).countP (fun y => decide (y.form = x.form)) : Nat) : Int) + 1) = (((l.take k).countP (fun y => decide (y.form = x.form)) : Nat) : Int) + 1 := wrap_i64 (by omega) (by omega)
      have hne : ∀ n : Int, (n != n) = false := fun n => by simp
      (repeat' (first | refine kA ?_ | refine kB ?_ | ((first | (refine kC (N := 77) rfl (by kernel_rfl) ?_) | (apply kJ (id := 10) (N := 77) kpld21; kernel_rfl; rfl; kernel_rfl; (repeat (first | exact Picks.nil | (apply Picks.cons; rfl)))) | (apply kJ (id := 14) (N := 77) kpld22; kernel_rfl; rfl; kernel_rfl; (repeat (first | exact Picks.nil | (apply Picks.cons; rfl)))) | (apply kJ (id := 19) (N := 77) kpld23; kernel_rfl; rfl; kernel_rfl; (repeat (first | exact Picks.nil | (apply Picks.cons; rfl)))) | refine kD ?_ | refine kE ?_ | (refine kN (hH) (kP rfl) ?_) | (refine kO (hH) (kP rfl) ?_)); simp +decide only [go_sem, hw, hx, t4, w1, hne, Ent.enc]) | (apply kG; (simp +decide only [go_sem, hw, hx, t4, w1, hne, Ent.enc]; rfl); all_goals (intro hcnd; first | (exact absurd hcnd (by decide)) | skip))))
      exact kM rfl (by simp +decide only [go_sem]) (by simp +decide only [go_sem])
    · rw [if_pos (by simp at t4; omega)] at hH
      (repeat' (first | refine kA ?_ | refine kB ?_ | ((first | (refine kC (N := 77) rfl (by kernel_rfl) ?_) | (apply kJ (id := 10) (N := 77) kpld21; kernel_rfl; rfl; kernel_rfl; (repeat (first | exact Picks.nil | (apply Picks.cons; rfl)))) | (apply kJ (id := 14) (N := 77) kpld22; kernel_rfl; rfl; kernel_rfl; (repeat (first | exact Picks.nil | (apply Picks.cons; rfl)))) | (apply kJ (id := 19) (N := 77) kpld23; kernel_rfl; rfl; kernel_rfl; (repeat (first | exact Picks.nil | (apply Picks.cons; rfl)))) | refine kD ?_ | refine kE ?_ | (refine kN (hH) (kP rfl) ?_) | (refine kO (hH) (kP rfl) ?_)); simp +decide only [go_sem, hw, hx, t4, Ent.enc]) | (apply kG; (simp +decide only [go_sem, hw, hx, t4, Ent.enc]; rfl); all_goals (intro hcnd; first | (exact absurd hcnd (by decide)) | skip))))
      exact kM rfl (by simp +decide only [go_sem]) (by simp +decide only [go_sem])
  · intro hlt
    (repeat' (first | refine kA ?_ | refine kB ?_ | ((first | (refine kC (N := 77) rfl (by kernel_rfl) ?_) | (apply kJ (id := 10) (N := 77) kpld21; kernel_rfl; rfl; kernel_rfl; (repeat (first | exact Picks.nil | (apply Picks.cons; rfl)))) | (apply kJ (id := 14) (N := 77) kpld22; kernel_rfl; rfl; kernel_rfl; (repeat (first | exact Picks.nil | (apply Picks.cons; rfl)))) | (apply kJ (id := 19) (N := 77) kpld23; kernel_rfl; rfl; kernel_rfl; (repeat (first | exact Picks.nil | (apply Picks.cons; rfl)))) | refine kD ?_ | refine kE ?_ | (refine kN (awake_D) (kP rfl) ?_) | (refine kO (awake_D) (kP rfl) ?_) | refine kF ?_); simp +decide only [go_sem, hlt]) | (apply kG; (simp +decide only [go_sem, hlt]; rfl); all_goals (intro hcnd; first | (exact absurd hcnd (by decide)) | skip))))
end Go.Proofs.YtdmmhemfnnbddaaGreatDoor
