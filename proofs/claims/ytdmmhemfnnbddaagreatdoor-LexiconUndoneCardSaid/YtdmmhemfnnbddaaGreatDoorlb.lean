/- Lexicons: the laws (II). -/
import Derived.Test.YtdmmhemfnnbddaaGreatDoorla
set_option linter.all false
set_option linter.unusedVariables false
set_option linter.unusedSimpArgs false
namespace Go.Proofs.YtdmmhemfnnbddaaGreatDoor
open Go.Dl
open Go.Dl renaming dw_seq → kA, dw_block → kB, dw_reg → kC, dw_skip → kD, dw_exit → kE, dw_ret → kF, dw_cond → kG, guardC_f → kH, guardC_t → kI, dw_drw → kJ, dw_weaken → kK, sub_kn → kL, sub_ml → kM
open Go.Dl.CallC renaming mk → kN, light → kO
open Go.Dl.LeL renaming of_eq → kP
open S (usort)
attribute [local irreducible] DW DCalls ECalls wk IW

theorem putE_len (g : List Phon) (l : List Ent) (e : Ent) : (putE g l e).1.length ≤ l.length + 1 := by
  unfold putE
  split
  · simp
  · exact putLx_len l e
theorem dropE_len (l : List Ent) (id : Int) : (dropE l id).1.length ≤ l.length := by
  unfold dropE
  split
  · simp
  split
  · simp
  · exact othersE_le l id

set_option maxRecDepth 10000 in
set_option maxHeartbeats 4000000 in
theorem lawPuts (g : List Phon) (l : List Ent) (e : Ent) : DCalls Tryz.prog 6 [.agg (lexRow g l), .agg e.row] (dv (lb true)) := by
  have hmax : maxLen = 9223372036854775807 := rfl
  have hR := right_D g l
  have hF := fewL_D [e]
  simp only [List.map_cons, List.map_nil, Ent.enc] at hF
  refine dcalls (N := 48) (rs := [.tmp 4]) (by kernel_rfl) Tryz.func6 rfl rfl rfl (by simp) ?_
  cases t1 : rightB g l
  · rw [t1] at hR
    (repeat' (first | refine kA ?_ | refine kB ?_ | ((first | (refine kC (N := 48) rfl (by kernel_rfl) ?_) | refine kD ?_ | refine kE ?_ | (refine kN (hR) (kP rfl) ?_) | (refine kO (hR) (kP rfl) ?_) | (refine kN (awake_D) (kP rfl) ?_) | (refine kO (awake_D) (kP rfl) ?_) | refine kF ?_); simp +decide only [go_sem, Ent.row]) | (apply kG; (simp +decide only [go_sem, Ent.row]; rfl); all_goals (intro hcnd; first | (exact absurd hcnd (by decide)) | skip)) | ((first | refine kH ?_ ?_ | refine kI ?_ ?_) <;> (intro hcnd; simp +decide only [go_sem, hcnd, Ent.row]))))
  rw [t1] at hR
  cases t2 : fewL [e]
  · rw [t2] at hF
    (repeat' (first | refine kA ?_ | refine kB ?_ | ((first | (refine kC (N := 48) rfl (by kernel_rfl) ?_) | refine kD ?_ | refine kE ?_ | (refine kN (hR) (kP rfl) ?_) | (refine kO (hR) (kP rfl) ?_) | (refine kN (hF) (kP rfl) ?_) | (refine kO (hF) (kP rfl) ?_) | (refine kN (awake_D) (kP rfl) ?_) | (refine kO (awake_D) (kP rfl) ?_) | refine kF ?_); simp +decide only [go_sem, Ent.row]) | (apply kG; (simp +decide only [go_sem, Ent.row]; rfl); all_goals (intro hcnd; first | (exact absurd hcnd (by decide)) | skip)) | ((first | refine kH ?_ ?_ | refine kI ?_ ?_) <;> (intro hcnd; simp +decide only [go_sem, hcnd, Ent.row]))))
  rw [t2] at hF
  have hr := rightB_is t1
  have hf := fewL_iff.1 t2
  have hlen := hr.few.len
  have hm : ∀ x ∈ putLx l e, MidE x := fun x hx => by
    rcases put_mem hx with rfl | hx
    · exact hf.mid x (by simp)
    · exact hr.few.mid x hx
  have h1 := put_D g l e (by omega) (fun x hx => (hm x hx).links)
  have h2 := rPut_D g l e hr.right.up (by omega) hm
  have hpl := putE_len g l e
  generalize putE g l e = p at h1 h2 hpl
  obtain ⟨ps, n⟩ := p
  have h3 := same25_D ps ps (by simp only at hpl; omega)
  rw [decide_eq_true rfl] at h3
  simp only [invRow, Ent.row] at h1 h2
  (repeat' (first | refine kA ?_ | refine kB ?_ | ((first | (refine kC (N := 48) rfl (by kernel_rfl) ?_) | refine kD ?_ | refine kE ?_ | (refine kN (hR) (kP rfl) ?_) | (refine kO (hR) (kP rfl) ?_) | (refine kN (hF) (kP rfl) ?_) | (refine kO (hF) (kP rfl) ?_) | (refine kN (h1) (kP rfl) ?_) | (refine kO (h1) (kP rfl) ?_) | (refine kN (h2) (kP rfl) ?_) | (refine kO (h2) (kP rfl) ?_) | (refine kN (h3) (kP rfl) ?_) | (refine kO (h3) (kP rfl) ?_) | (refine kN (awake_D) (kP rfl) ?_) | (refine kO (awake_D) (kP rfl) ?_) | refine kF ?_); simp +decide only [go_sem, ii, Ent.row]) | (apply kG; (simp +decide only [go_sem, ii, Ent.row]; rfl); all_goals (intro hcnd; first | (exact absurd hcnd (by decide)) | skip)) | ((first | refine kH ?_ ?_ | refine kI ?_ ?_) <;> (intro hcnd; simp +decide only [go_sem, hcnd, ii, Ent.row]))))

set_option maxRecDepth 10000 in
set_option maxHeartbeats 4000000 in
theorem lawDrops (g : List Phon) (l : List Ent) (id : Int) : DCalls Tryz.prog 7 [.agg (lexRow g l), dv (li id)] (dv (lb true)) := by
  have hmax : maxLen = 9223372036854775807 := rfl
  have hR := right_D g l
  refine dcalls (N := 38) (rs := [.tmp 4]) (by kernel_rfl) Tryz.func7 rfl rfl rfl (by simp) ?_
  cases t1 : rightB g l
  · rw [t1] at hR
    (repeat' (first | refine kA ?_ | refine kB ?_ | ((first | (refine kC (N := 38) rfl (by kernel_rfl) ?_) | refine kD ?_ | refine kE ?_ | (refine kN (hR) (kP rfl) ?_) | (refine kO (hR) (kP rfl) ?_) | (refine kN (awake_D) (kP rfl) ?_) | (refine kO (awake_D) (kP rfl) ?_) | refine kF ?_); simp +decide only [go_sem]) | (apply kG; (simp +decide only [go_sem]; rfl); all_goals (intro hcnd; first | (exact absurd hcnd (by decide)) | skip)) | ((first | refine kH ?_ ?_ | refine kI ?_ ?_) <;> (intro hcnd; simp +decide only [go_sem, hcnd]))))
  rw [t1] at hR
  have hr := rightB_is t1
  have hlen := hr.few.len
  have h1 := drop_D l id hr.right.up (by omega) (fun x hx => (hr.few.mid x hx).links)
  have h2 := rDrop_D l id (by omega) (fun x hx => (hr.few.mid x hx).links)
  have hpl := dropE_len l id
  generalize dropE l id = p at h1 h2 hpl
  obtain ⟨ps, n⟩ := p
  have h3 := same25_D ps ps (by simp only at hpl; omega)
  rw [decide_eq_true rfl] at h3
  (repeat' (first | refine kA ?_ | refine kB ?_ | ((first | (refine kC (N := 38) rfl (by kernel_rfl) ?_) | refine kD ?_ | refine kE ?_ | (refine kN (hR) (kP rfl) ?_) | (refine kO (hR) (kP rfl) ?_) | (refine kN (h1) (kP rfl) ?_) | (refine kO (h1) (kP rfl) ?_) | (refine kN (h2) (kP rfl) ?_) | (refine kO (h2) (kP rfl) ?_) | (refine kN (h3) (kP rfl) ?_) | (refine kO (h3) (kP rfl) ?_) | (refine kN (awake_D) (kP rfl) ?_) | (refine kO (awake_D) (kP rfl) ?_) | refine kF ?_); simp +decide only [go_sem, ii]) | (apply kG; (simp +decide only [go_sem, ii]; rfl); all_goals (intro hcnd; first | (exact absurd hcnd (by decide)) | skip)) | ((first | refine kH ?_ ?_ | refine kI ?_ ?_) <;> (intro hcnd; simp +decide only [go_sem, hcnd, ii]))))

set_option maxRecDepth 10000 in
set_option maxHeartbeats 4000000 in
theorem lawSame (a b : List Ent) : DCalls Tryz.prog 8 [dv (.sl 8 (a.map Ent.enc)), dv (.sl 8 (b.map Ent.enc))] (dv (lb true)) := by
  have hmax : maxLen = 9223372036854775807 := rfl
  have hF := fewL_D a
  have hG := fewL_D b
  refine dcalls (N := 29) (rs := [.tmp 4]) (by kernel_rfl) Tryz.func8 rfl rfl rfl (by simp) ?_
  cases t1 : fewL a
  · rw [t1] at hF
    (repeat' (first | refine kA ?_ | refine kB ?_ | ((first | (refine kC (N := 29) rfl (by kernel_rfl) ?_) | refine kD ?_ | refine kE ?_ | (refine kN (hF) (kP rfl) ?_) | (refine kO (hF) (kP rfl) ?_) | (refine kN (awake_D) (kP rfl) ?_) | (refine kO (awake_D) (kP rfl) ?_) | refine kF ?_); simp +decide only [go_sem]) | (apply kG; (simp +decide only [go_sem]; rfl); all_goals (intro hcnd; first | (exact absurd hcnd (by decide)) | skip)) | ((first | refine kH ?_ ?_ | refine kI ?_ ?_) <;> (intro hcnd; simp +decide only [go_sem, hcnd]))))
  rw [t1] at hF
  cases t2 : fewL b
  · rw [t2] at hG
    (repeat' (first | refine kA ?_ | refine kB ?_ | ((first | (refine kC (N := 29) rfl (by kernel_rfl) ?_) | refine kD ?_ | refine kE ?_ | (refine kN (hF) (kP rfl) ?_) | (refine kO (hF) (kP rfl) ?_) | (refine kN (hG) (kP rfl) ?_) | (refine kO (hG) (kP rfl) ?_) | (refine kN (awake_D) (kP rfl) ?_) | (refine kO (awake_D) (kP rfl) ?_) | refine kF ?_); simp +decide only [go_sem]) | (apply kG; (simp +decide only [go_sem]; rfl); all_goals (intro hcnd; first | (exact absurd hcnd (by decide)) | skip)) | ((first | refine kH ?_ ?_ | refine kI ?_ ?_) <;> (intro hcnd; simp +decide only [go_sem, hcnd]))))
  rw [t2] at hG
  have hf := fewL_iff.1 t1
  have hlen := hf.len
  have h1 := sameL_D a b (by omega)
  have h2 := same25_D a b (by omega)
  have h3 := sameL_D a a (by omega)
  rw [decide_eq_true rfl] at h3
  (repeat' (first | refine kA ?_ | refine kB ?_ | ((first | (refine kC (N := 29) rfl (by kernel_rfl) ?_) | refine kD ?_ | refine kE ?_ | (refine kN (hF) (kP rfl) ?_) | (refine kO (hF) (kP rfl) ?_) | (refine kN (hG) (kP rfl) ?_) | (refine kO (hG) (kP rfl) ?_) | (refine kN (h3) (kP rfl) ?_) | (refine kO (h3) (kP rfl) ?_) | (refine kN (h1) (kP rfl) ?_) | (refine kO (h1) (kP rfl) ?_) | (refine kN (h2) (kP rfl) ?_) | (refine kO (h2) (kP rfl) ?_) | (refine kN (awake_D) (kP rfl) ?_) | (refine kO (awake_D) (kP rfl) ?_) | refine kF ?_); simp +decide only [go_sem, bb]) | (apply kG; (simp +decide only [go_sem, bb]; rfl); all_goals (intro hcnd; first | (exact absurd hcnd (by decide)) | skip)) | ((first | refine kH ?_ ?_ | refine kI ?_ ?_) <;> (intro hcnd; simp +decide only [go_sem, hcnd, bb]))))
end Go.Proofs.YtdmmhemfnnbddaaGreatDoor
