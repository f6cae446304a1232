/- Lexicons: the laws (I). -/
import Derived.Test.YtdmmhemfnnbddaaGreatDoorm5
set_option linter.all false
set_option linter.unusedVariables false
set_option linter.unusedSimpArgs false
namespace Go.Proofs.YtdmmhemfnnbddaaGreatDoor
abbrev kpla21 : List (Nat × Go.Dl.Mode) := [(0, .light), (1, .light), (2, .light), (3, .light), (4, .light), (5, .light), (6, .light), (7, .light), (8, .light), (9, .step), (10, .light), (11, .light), (12, .step), (13, .light), (14, .light)]
abbrev kpla22 : List (Nat × Go.Dl.Mode) := [(0, .light), (1, .light), (2, .light), (3, .light), (4, .light), (5, .light), (6, .light), (7, .step), (8, .step), (9, .light), (10, .light), (11, .light), (12, .light), (13, .light), (14, .light), (15, .light), (16, .light), (17, .step), (18, .step), (19, .light), (20, .light), (21, .light), (22, .light), (23, .light), (24, .light), (25, .light), (26, .light), (27, .light), (28, .step), (29, .step), (30, .light), (31, .light), (32, .step), (33, .light), (34, .light)]
end Go.Proofs.YtdmmhemfnnbddaaGreatDoor
namespace Go.Proofs.YtdmmhemfnnbddaaGreatDoor
open Go.Dl
open Go.Dl renaming dw_seq → kA, dw_block → kB, dw_reg → kC, dw_skip → kD, dw_exit → kE, dw_ret → kF, dw_cond → kG, guardC_f → kH, guardC_t → kI, dw_drw → kJ, dw_weaken → kK, sub_kn → kL, sub_ml → kM
open Go.Dl.CallC renaming mk → kN, light → kO
open Go.Dl.LeL renaming of_eq → kP
open S (usort)
attribute [local irreducible] DW DCalls ECalls wk IW

theorem bb (b : Bool) : (b == b) = true := by simp
theorem ii (n : Int) : (n == n) = true := by simp
theorem midF_of {e : Ent} (he : MidE e) : MidF e := ⟨he.alts, fun a ha => by
  rcases List.mem_cons.1 ha with rfl | h
  · exact he.form
  · exact he.alt a h⟩
theorem put_mem {l : List Ent} {e x : Ent} (h : x ∈ putLx l e) : x = e ∨ x ∈ l := by
  rcases List.mem_append.1 h with h | h
  · exact .inr (List.mem_of_mem_take h)
  · rcases List.mem_cons.1 h with h | h
    · exact .inl h
    · exact .inr (List.mem_of_mem_drop h)

set_option maxRecDepth 10000 in
set_option maxHeartbeats 4000000 in
theorem lawChecks (g : List Phon) (l : List Ent) : DCalls Tryz.prog 3 [.agg (lexRow g l)] (dv (lb true)) := by
  have hS := sound_D g l
  refine dcalls (N := 21) (rs := [.tmp 2]) (by kernel_rfl) Tryz.func3 rfl rfl rfl (by simp) ?_
  cases t1 : soundB g l
  · rw [t1] at hS
    (repeat' (first | refine kA ?_ | refine kB ?_ | ((first | (refine kC (N := 21) rfl (by kernel_rfl) ?_) | (apply kJ (id := 3) (N := 21) kpla21; kernel_rfl; rfl; kernel_rfl; (repeat (first | exact Picks.nil | (apply Picks.cons; rfl)))) | refine kD ?_ | refine kE ?_ | (refine kN (hS) (kP rfl) ?_) | (refine kO (hS) (kP rfl) ?_) | (refine kN (awake_D) (kP rfl) ?_) | (refine kO (awake_D) (kP rfl) ?_) | refine kF ?_); simp +decide only [go_sem]) | (apply kG; (simp +decide only [go_sem]; rfl); all_goals (intro hcnd; first | (exact absurd hcnd (by decide)) | skip)) | ((first | refine kH ?_ ?_ | refine kI ?_ ?_) <;> (intro hcnd; simp +decide only [go_sem, hcnd]))))
  rw [t1] at hS
  have hs := soundB_is t1
  have h1 := checkL_D g l (fun e he => (hs.few.mid e he).links) (by have := hs.few.len; omega)
  have h2 := rCheckL_D g l hs.few.mid
  simp only [invRow] at h1 h2
  (repeat' (first | refine kA ?_ | refine kB ?_ | ((first | (refine kC (N := 21) rfl (by kernel_rfl) ?_) | (apply kJ (id := 3) (N := 21) kpla21; kernel_rfl; rfl; kernel_rfl; (repeat (first | exact Picks.nil | (apply Picks.cons; rfl)))) | refine kD ?_ | refine kE ?_ | (refine kN (hS) (kP rfl) ?_) | (refine kO (hS) (kP rfl) ?_) | (refine kN (h1) (kP rfl) ?_) | (refine kO (h1) (kP rfl) ?_) | (refine kN (h2) (kP rfl) ?_) | (refine kO (h2) (kP rfl) ?_) | (refine kN (awake_D) (kP rfl) ?_) | (refine kO (awake_D) (kP rfl) ?_) | refine kF ?_); simp +decide only [go_sem, ii]) | (apply kG; (simp +decide only [go_sem, ii]; rfl); all_goals (intro hcnd; first | (exact absurd hcnd (by decide)) | skip)) | ((first | refine kH ?_ ?_ | refine kI ?_ ?_) <;> (intro hcnd; simp +decide only [go_sem, hcnd, ii]))))

set_option maxRecDepth 10000 in
set_option maxHeartbeats 4000000 in
theorem lawGets (l : List Ent) (id : Int) : DCalls Tryz.prog 4 [dv (.sl 8 (l.map Ent.enc)), dv (li id)] (dv (lb true)) := by
  have hmax : maxLen = 9223372036854775807 := rfl
  have hF := fewL_D l
  refine dcalls (N := 45) (rs := [.tmp 4]) (by kernel_rfl) Tryz.func4 rfl rfl rfl (by simp) ?_
  cases t1 : fewL l
  · rw [t1] at hF
    (repeat' (first | refine kA ?_ | refine kB ?_ | ((first | (refine kC (N := 45) rfl (by kernel_rfl) ?_) | refine kD ?_ | refine kE ?_ | (refine kN (hF) (kP rfl) ?_) | (refine kO (hF) (kP rfl) ?_) | (refine kN (awake_D) (kP rfl) ?_) | (refine kO (awake_D) (kP rfl) ?_) | refine kF ?_); simp +decide only [go_sem]) | (apply kG; (simp +decide only [go_sem]; rfl); all_goals (intro hcnd; first | (exact absurd hcnd (by decide)) | skip)) | ((first | refine kH ?_ ?_ | refine kI ?_ ?_) <;> (intro hcnd; simp +decide only [go_sem, hcnd]))))
  rw [t1] at hF
  have hf := fewL_iff.1 t1
  have hlen := hf.len
  have h1 := get_D l id (by omega)
  have h2 := rGet_D l id (by omega)
  have h3 := hom_D l id (by omega) (fun e he => by have := (hf.each e he).form; omega)
  have h4 := rHom_D l id (by omega) (fun e he => by have := (hf.each e he).form; omega)
  generalize getE l id = p at h1 h2
  obtain ⟨e, b⟩ := p
  have h5 := same24_D e e
  rw [decide_eq_true rfl] at h5
  simp only [Ent.row] at h1 h2 h5
  (repeat' (first | refine kA ?_ | refine kB ?_ | ((first | (refine kC (N := 45) rfl (by kernel_rfl) ?_) | refine kD ?_ | refine kE ?_ | (refine kN (hF) (kP rfl) ?_) | (refine kO (hF) (kP rfl) ?_) | (refine kN (h1) (kP rfl) ?_) | (refine kO (h1) (kP rfl) ?_) | (refine kN (h2) (kP rfl) ?_) | (refine kO (h2) (kP rfl) ?_) | (refine kN (h3) (kP rfl) ?_) | (refine kO (h3) (kP rfl) ?_) | (refine kN (h4) (kP rfl) ?_) | (refine kO (h4) (kP rfl) ?_) | (refine kN (h5) (kP rfl) ?_) | (refine kO (h5) (kP rfl) ?_) | (refine kN (awake_D) (kP rfl) ?_) | (refine kO (awake_D) (kP rfl) ?_) | refine kF ?_); simp +decide only [go_sem, bb, ii]) | (apply kG; (simp +decide only [go_sem, bb, ii]; rfl); all_goals (intro hcnd; first | (exact absurd hcnd (by decide)) | skip)) | ((first | refine kH ?_ ?_ | refine kI ?_ ?_) <;> (intro hcnd; simp +decide only [go_sem, hcnd, bb, ii]))))

set_option maxRecDepth 20000 in
set_option maxHeartbeats 8000000 in
theorem lawFinds (l : List Ent) (w : List Int) (c : Int) (s : ByteArray) : DCalls Tryz.prog 5 [dv (.sl 8 (l.map Ent.enc)), .agg [.c (.sl 1 (ints w)), .c (li c), .c (ls s)]] (dv (lb true)) := by
  have hmax : maxLen = 9223372036854775807 := rfl
  have hF := fewL_D l
  refine dcalls (N := 55) (rs := [.tmp 4]) (by kernel_rfl) Tryz.func5 rfl rfl rfl (by simp) ?_
  cases t1 : fewL l
  · rw [t1] at hF
    (repeat' (first | refine kA ?_ | refine kB ?_ | ((first | (refine kC (N := 55) rfl (by kernel_rfl) ?_) | (apply kJ (id := 3) (N := 55) kpla22; kernel_rfl; rfl; kernel_rfl; (repeat (first | exact Picks.nil | (apply Picks.cons; rfl)))) | refine kD ?_ | refine kE ?_ | (refine kN (hF) (kP rfl) ?_) | (refine kO (hF) (kP rfl) ?_) | (refine kN (awake_D) (kP rfl) ?_) | (refine kO (awake_D) (kP rfl) ?_) | refine kF ?_); simp +decide only [go_sem]) | (apply kG; (simp +decide only [go_sem]; rfl); all_goals (intro hcnd; first | (exact absurd hcnd (by decide)) | skip)) | ((first | refine kH ?_ ?_ | refine kI ?_ ?_) <;> (intro hcnd; simp +decide only [go_sem, hcnd]))))
  rw [t1] at hF
  have hf := fewL_iff.1 t1
  have hlen := hf.len
  cases t2 : decide ((40 : Int) < (w.length : Int))
  rotate_left
  · (repeat' (first | refine kA ?_ | refine kB ?_ | ((first | (refine kC (N := 55) rfl (by kernel_rfl) ?_) | (apply kJ (id := 3) (N := 55) kpla22; kernel_rfl; rfl; kernel_rfl; (repeat (first | exact Picks.nil | (apply Picks.cons; rfl)))) | refine kD ?_ | refine kE ?_ | (refine kN (hF) (kP rfl) ?_) | (refine kO (hF) (kP rfl) ?_) | (refine kN (awake_D) (kP rfl) ?_) | (refine kO (awake_D) (kP rfl) ?_) | refine kF ?_); simp +decide only [go_sem, t2]) | (apply kG; (simp +decide only [go_sem, t2]; rfl); all_goals (intro hcnd; first | (exact absurd hcnd (by decide)) | skip)) | ((first | refine kH ?_ ?_ | refine kI ?_ ?_) <;> (intro hcnd; simp +decide only [go_sem, hcnd, t2]))))
  cases t3 : decide ((100 : Int) < (s.size : Int))
  rotate_left
  · (repeat' (first | refine kA ?_ | refine kB ?_ | ((first | (refine kC (N := 55) rfl (by kernel_rfl) ?_) | (apply kJ (id := 3) (N := 55) kpla22; kernel_rfl; rfl; kernel_rfl; (repeat (first | exact Picks.nil | (apply Picks.cons; rfl)))) | refine kD ?_ | refine kE ?_ | (refine kN (hF) (kP rfl) ?_) | (refine kO (hF) (kP rfl) ?_) | (refine kN (awake_D) (kP rfl) ?_) | (refine kO (awake_D) (kP rfl) ?_) | refine kF ?_); simp +decide only [go_sem, t2, t3]) | (apply kG; (simp +decide only [go_sem, t2, t3]; rfl); all_goals (intro hcnd; first | (exact absurd hcnd (by decide)) | skip)) | ((first | refine kH ?_ ?_ | refine kI ?_ ?_) <;> (intro hcnd; simp +decide only [go_sem, hcnd, t2, t3]))))
  have hm : ∀ e ∈ l, MidF e := fun e he => midF_of (hf.mid e he)
  have hb : ∀ (p : Ent → Bool), (usort (idsOf l p)).length ≤ maxLen := fun p => by have := usort_lenI (idsOf l p); have := idsOf_len l p; omega
  have h1 := byForm_D l w (by omega) hm
  have h2 := rByForm_D l w (by omega) hm
  have h3 := byClass_D l c (by omega)
  have h4 := rByClass_D l c (by omega)
  have h5 := byGloss_D l s (by omega) (fun e he => by have := (hf.each e he).senses; omega)
  have h6 := rByGloss_D l s (by omega) (fun e he => by have := (hf.each e he).senses; omega)
  have q1 := sameI_D (byForm l w) (byForm l w) (hb _)
  have q2 := sameI_D (byClass l c) (byClass l c) (hb _)
  have q3 := sameI_D (byGloss l s) (byGloss l s) (hb _)
  rw [decide_eq_true rfl] at q1 q2 q3
  (repeat' (first | refine kA ?_ | refine kB ?_ | ((first | (refine kC (N := 55) rfl (by kernel_rfl) ?_) | (apply kJ (id := 3) (N := 55) kpla22; kernel_rfl; rfl; kernel_rfl; (repeat (first | exact Picks.nil | (apply Picks.cons; rfl)))) | refine kD ?_ | refine kE ?_ | (refine kN (hF) (kP rfl) ?_) | (refine kO (hF) (kP rfl) ?_) | (refine kN (h1) (kP rfl) ?_) | (refine kO (h1) (kP rfl) ?_) | (refine kN (h2) (kP rfl) ?_) | (refine kO (h2) (kP rfl) ?_) | (refine kN (h3) (kP rfl) ?_) | (refine kO (h3) (kP rfl) ?_) | (refine kN (h4) (kP rfl) ?_) | (refine kO (h4) (kP rfl) ?_) | (refine kN (h5) (kP rfl) ?_) | (refine kO (h5) (kP rfl) ?_) | (refine kN (h6) (kP rfl) ?_) | (refine kO (h6) (kP rfl) ?_) | (refine kN (q1) (kP rfl) ?_) | (refine kO (q1) (kP rfl) ?_) | (refine kN (q2) (kP rfl) ?_) | (refine kO (q2) (kP rfl) ?_) | (refine kN (q3) (kP rfl) ?_) | (refine kO (q3) (kP rfl) ?_) | (refine kN (awake_D) (kP rfl) ?_) | (refine kO (awake_D) (kP rfl) ?_) | refine kF ?_); simp +decide only [go_sem, t2, t3]) | (apply kG; (simp +decide only [go_sem, t2, t3]; rfl); all_goals (intro hcnd; first | (exact absurd hcnd (by decide)) | skip)) | ((first | refine kH ?_ ?_ | refine kI ?_ ?_) <;> (intro hcnd; simp +decide only [go_sem, hcnd, t2, t3]))))
end Go.Proofs.YtdmmhemfnnbddaaGreatDoor
