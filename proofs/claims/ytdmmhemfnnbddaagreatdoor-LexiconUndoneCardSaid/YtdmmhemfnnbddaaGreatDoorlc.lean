/- Lexicons: the laws (III). -/
import Derived.Test.YtdmmhemfnnbddaaGreatDoorlb
set_option linter.all false
set_option linter.unusedVariables false
set_option linter.unusedSimpArgs false
namespace Go.Proofs.YtdmmhemfnnbddaaGreatDoor
open Go.Dl
open Go.Dl renaming dw_seq → kA, dw_block → kB, dw_reg → kC, dw_skip → kD, dw_exit → kE, dw_ret → kF, dw_cond → kG, guardC_f → kH, guardC_t → kI, dw_drw → kJ, dw_weaken → kK, sub_kn → kL, sub_ml → kM
open Go.Dl.CallC renaming mk → kN, light → kO
open Go.Dl.LeL renaming of_eq → kP
open S (usort)
attribute [local irreducible] DW DCalls ECalls wk IW

set_option maxRecDepth 20000 in
set_option maxHeartbeats 8000000 in
theorem lawRight (g : List Phon) (l : List Ent) (e : Ent) (id : Int) : DCalls Tryz.prog 9 [.agg (lexRow g l), .agg e.row, dv (li id)] (dv (lb true)) := by
  have hmax : maxLen = 9223372036854775807 := rfl
  have h00 : ((0 : Int) != 0) = false := rfl
  have hR := right_D g l
  have hF := fewL_D [e]
  simp only [List.map_cons, List.map_nil, Ent.enc] at hF
  refine dcalls (N := 108) (rs := [.tmp 6]) (by kernel_rfl) Tryz.func9 rfl rfl rfl (by simp) ?_
  cases t1 : rightB g l
  · rw [t1] at hR
    (repeat' (first | refine kA ?_ | refine kB ?_ | ((first | (refine kC (N := 108) rfl (by kernel_rfl) ?_) | refine kD ?_ | refine kE ?_ | (refine kN (hR) (kP rfl) ?_) | (refine kO (hR) (kP rfl) ?_) | (refine kN (awake_D) (kP rfl) ?_) | (refine kO (awake_D) (kP rfl) ?_) | refine kF ?_); simp +decide only [go_sem, Ent.row]) | (apply kG; (simp +decide only [go_sem, Ent.row]; rfl); all_goals (intro hcnd; first | (exact absurd hcnd (by decide)) | skip)) | ((first | refine kH ?_ ?_ | refine kI ?_ ?_) <;> (intro hcnd; simp +decide only [go_sem, hcnd, Ent.row]))))
  rw [t1] at hR
  cases t2 : fewL [e]
  · rw [t2] at hF
    (repeat' (first | refine kA ?_ | refine kB ?_ | ((first | (refine kC (N := 108) rfl (by kernel_rfl) ?_) | refine kD ?_ | refine kE ?_ | (refine kN (hR) (kP rfl) ?_) | (refine kO (hR) (kP rfl) ?_) | (refine kN (hF) (kP rfl) ?_) | (refine kO (hF) (kP rfl) ?_) | (refine kN (awake_D) (kP rfl) ?_) | (refine kO (awake_D) (kP rfl) ?_) | refine kF ?_); simp +decide only [go_sem, Ent.row]) | (apply kG; (simp +decide only [go_sem, Ent.row]; rfl); all_goals (intro hcnd; first | (exact absurd hcnd (by decide)) | skip)) | ((first | refine kH ?_ ?_ | refine kI ?_ ?_) <;> (intro hcnd; simp +decide only [go_sem, hcnd, Ent.row]))))
  rw [t2] at hF
  have hr := rightB_is t1
  have hf := fewL_iff.1 t2
  have hlen := hr.few.len
  have hm : ∀ x ∈ putLx l e, MidE x := fun x hx => by
    rcases put_mem hx with rfl | hx
    · exact hf.mid x (by simp)
    · exact hr.few.mid x hx
  have hP := put_D g l e (by omega) (fun x hx => (hm x hx).links)
  have hD := drop_D l id hr.right.up (by omega) (fun x hx => (hr.few.mid x hx).links)
  have hpk : (putE g l e).2 = 0 → putE g l e = (putLx l e, 0) ∧ RightL g (putLx l e) := putE_ok
  have hdk : (dropE l id).2 = 0 → dropE l id = (othersE l id, 0) ∧ hasId l id = true ∧ ∀ e ∈ othersE l id, usesId id e = false := dropE_is
  generalize putE g l e = p at hP hpk
  generalize dropE l id = q at hD hdk
  obtain ⟨ps, n⟩ := p
  obtain ⟨qs, m⟩ := q
  simp only [invRow, Ent.row] at hP hD
  simp only at hpk hdk
  cases t3 : n == 0
  · cases t4 : m == 0
    · (repeat' (first | refine kA ?_ | refine kB ?_ | ((first | (refine kC (N := 108) rfl (by kernel_rfl) ?_) | refine kD ?_ | refine kE ?_ | (refine kN (hR) (kP rfl) ?_) | (refine kO (hR) (kP rfl) ?_) | (refine kN (hF) (kP rfl) ?_) | (refine kO (hF) (kP rfl) ?_) | (refine kN (hP) (kP rfl) ?_) | (refine kO (hP) (kP rfl) ?_) | (refine kN (hD) (kP rfl) ?_) | (refine kO (hD) (kP rfl) ?_) | (refine kN (awake_D) (kP rfl) ?_) | (refine kO (awake_D) (kP rfl) ?_) | refine kF ?_); simp +decide only [go_sem, t3, t4, Ent.row]) | (apply kG; (simp +decide only [go_sem, t3, t4, Ent.row]; rfl); all_goals (intro hcnd; first | (exact absurd hcnd (by decide)) | skip)) | ((first | refine kH ?_ ?_ | refine kI ?_ ?_) <;> (intro hcnd; simp +decide only [go_sem, hcnd, t3, t4, Ent.row]))))
    · obtain ⟨hq, hhas, hu⟩ := hdk (by simpa using t4)
      injection hq with hq hm0
      subst hq
      have hlo := othersE_le l id
      have h1 := get_D (othersE l id) id (by omega)
      have h2 := rCheckL_D g (othersE l id) (fun x hx => hr.few.mid x (List.mem_filter.1 hx).1)
      have h3 := others_D (othersE l id) l id (by omega) (by omega)
      rw [others_others, decide_eq_true rfl] at h3
      rw [(lexE_iff _ _).2 (drop_right hr.right hu)] at h2
      have hg := getE_has (othersE l id) id
      rw [others_has] at hg
      have hll := others_len hr.right.up hhas
      have hw : IntKind.i64.wrap ((l.length : Int) - 1) = ((othersE l id).length : Int) := by rw [wrap_i64 (by omega) (by omega)]; omega
      have hne : (((othersE l id).length : Int) != ((othersE l id).length : Int)) = false := by simp
      generalize getE (othersE l id) id = r at h1 hg
      obtain ⟨o, b⟩ := r
      simp only at hg
      subst hg
      simp only [invRow, Ent.row] at h1 h2
      (repeat' (first | refine kA ?_ | refine kB ?_ | ((first | (refine kC (N := 108) rfl (by kernel_rfl) ?_) | refine kD ?_ | refine kE ?_ | (refine kN (hR) (kP rfl) ?_) | (refine kO (hR) (kP rfl) ?_) | (refine kN (hF) (kP rfl) ?_) | (refine kO (hF) (kP rfl) ?_) | (refine kN (hP) (kP rfl) ?_) | (refine kO (hP) (kP rfl) ?_) | (refine kN (hD) (kP rfl) ?_) | (refine kO (hD) (kP rfl) ?_) | (refine kN (h1) (kP rfl) ?_) | (refine kO (h1) (kP rfl) ?_) | (refine kN (h2) (kP rfl) ?_) | (refine kO (h2) (kP rfl) ?_) | (refine kN (h3) (kP rfl) ?_) | (refine kO (h3) (kP rfl) ?_) | (refine kN (awake_D) (kP rfl) ?_) | (refine kO (awake_D) (kP rfl) ?_) | refine kF ?_); simp +decide only [go_sem, t3, t4, hw, hne, h00, Ent.row]) | (apply kG; (simp +decide only [go_sem, t3, t4, hw, hne, h00, Ent.row]; rfl); all_goals (intro hcnd; first | (exact absurd hcnd (by decide)) | skip)) | ((first | refine kH ?_ ?_ | refine kI ?_ ?_) <;> (intro hcnd; simp +decide only [go_sem, hcnd, t3, t4, hw, hne, h00, Ent.row]))))
  · obtain ⟨hp, hpr⟩ := hpk (by simpa using t3)
    injection hp with hp hn0
    subst hp
    have hpl := putLx_len l e
    have h1 := get_D (putLx l e) e.id (by omega)
    rw [getE_up hpr.up put_get] at h1
    have h2 := rCheckL_D g (putLx l e) hm
    rw [(lexE_iff _ _).2 hpr] at h2
    have h3 := others_D (putLx l e) l e.id (by omega) (by omega)
    rw [put_others hr.right.up, decide_eq_true rfl] at h3
    have h4 := same24_D e e
    rw [decide_eq_true rfl] at h4
    simp only [invRow, Ent.row] at h1 h2 h4
    cases t4 : m == 0
    · (repeat' (first | refine kA ?_ | refine kB ?_ | ((first | (refine kC (N := 108) rfl (by kernel_rfl) ?_) | refine kD ?_ | refine kE ?_ | (refine kN (hR) (kP rfl) ?_) | (refine kO (hR) (kP rfl) ?_) | (refine kN (hF) (kP rfl) ?_) | (refine kO (hF) (kP rfl) ?_) | (refine kN (hP) (kP rfl) ?_) | (refine kO (hP) (kP rfl) ?_) | (refine kN (hD) (kP rfl) ?_) | (refine kO (hD) (kP rfl) ?_) | (refine kN (h1) (kP rfl) ?_) | (refine kO (h1) (kP rfl) ?_) | (refine kN (h2) (kP rfl) ?_) | (refine kO (h2) (kP rfl) ?_) | (refine kN (h3) (kP rfl) ?_) | (refine kO (h3) (kP rfl) ?_) | (refine kN (h4) (kP rfl) ?_) | (refine kO (h4) (kP rfl) ?_) | (refine kN (awake_D) (kP rfl) ?_) | (refine kO (awake_D) (kP rfl) ?_) | refine kF ?_); simp +decide only [go_sem, t3, t4, h00, Ent.row]) | (apply kG; (simp +decide only [go_sem, t3, t4, h00, Ent.row]; rfl); all_goals (intro hcnd; first | (exact absurd hcnd (by decide)) | skip)) | ((first | refine kH ?_ ?_ | refine kI ?_ ?_) <;> (intro hcnd; simp +decide only [go_sem, hcnd, t3, t4, h00, Ent.row]))))
    · obtain ⟨hq, hhas, hu⟩ := hdk (by simpa using t4)
      injection hq with hq hm0
      subst hq
      have hlo := othersE_le l id
      have k1 := get_D (othersE l id) id (by omega)
      have k2 := rCheckL_D g (othersE l id) (fun x hx => hr.few.mid x (List.mem_filter.1 hx).1)
      have k3 := others_D (othersE l id) l id (by omega) (by omega)
      rw [others_others, decide_eq_true rfl] at k3
      rw [(lexE_iff _ _).2 (drop_right hr.right hu)] at k2
      have hg := getE_has (othersE l id) id
      rw [others_has] at hg
      have hll := others_len hr.right.up hhas
      have hw : IntKind.i64.wrap ((l.length : Int) - 1) = ((othersE l id).length : Int) := by rw [wrap_i64 (by omega) (by omega)]; omega
      have hne : (((othersE l id).length : Int) != ((othersE l id).length : Int)) = false := by simp
      generalize getE (othersE l id) id = r at k1 hg
      obtain ⟨o, b⟩ := r
      simp only at hg
      subst hg
      simp only [invRow, Ent.row] at k1 k2
      (repeat' (first | refine kA ?_ | refine kB ?_ | ((first | (refine kC (N := 108) rfl (by kernel_rfl) ?_) | refine kD ?_ | refine kE ?_ | (refine kN (hR) (kP rfl) ?_) | (refine kO (hR) (kP rfl) ?_) | (refine kN (hF) (kP rfl) ?_) | (refine kO (hF) (kP rfl) ?_) | (refine kN (hP) (kP rfl) ?_) | (refine kO (hP) (kP rfl) ?_) | (refine kN (hD) (kP rfl) ?_) | (refine kO (hD) (kP rfl) ?_) | (refine kN (h1) (kP rfl) ?_) | (refine kO (h1) (kP rfl) ?_) | (refine kN (h2) (kP rfl) ?_) | (refine kO (h2) (kP rfl) ?_) | (refine kN (h3) (kP rfl) ?_) | (refine kO (h3) (kP rfl) ?_) | (refine kN (h4) (kP rfl) ?_) | (refine kO (h4) (kP rfl) ?_) | (refine kN (k1) (kP rfl) ?_) | (refine kO (k1) (kP rfl) ?_) | (refine kN (k2) (kP rfl) ?_) | (refine kO (k2) (kP rfl) ?_) | (refine kN (k3) (kP rfl) ?_) | (refine kO (k3) (kP rfl) ?_) | (refine kN (awake_D) (kP rfl) ?_) | (refine kO (awake_D) (kP rfl) ?_) | refine kF ?_); simp +decide only [go_sem, t3, t4, hw, hne, h00, Ent.row]) | (apply kG; (simp +decide only [go_sem, t3, t4, hw, hne, h00, Ent.row]; rfl); all_goals (intro hcnd; first | (exact absurd hcnd (by decide)) | skip)) | ((first | refine kH ?_ ?_ | refine kI ?_ ?_) <;> (intro hcnd; simp +decide only [go_sem, hcnd, t3, t4, hw, hne, h00, Ent.row]))))

set_option maxRecDepth 20000 in
set_option maxHeartbeats 8000000 in
theorem lawUndone (g : List Phon) (l : List Ent) (e : Ent) : DCalls Tryz.prog 10 [.agg (lexRow g l), .agg e.row] (dv (lb true)) := by
  have hmax : maxLen = 9223372036854775807 := rfl
  have hR := right_D g l
  have hF := fewL_D [e]
  simp only [List.map_cons, List.map_nil, Ent.enc] at hF
  refine dcalls (N := 72) (rs := [.tmp 4]) (by kernel_rfl) Tryz.func10 rfl rfl rfl (by simp) ?_
  cases t1 : rightB g l
  · rw [t1] at hR
    (repeat' (first | refine kA ?_ | refine kB ?_ | ((first | (refine kC (N := 72) rfl (by kernel_rfl) ?_) | refine kD ?_ | refine kE ?_ | (refine kN (hR) (kP rfl) ?_) | (refine kO (hR) (kP rfl) ?_) | (refine kN (awake_D) (kP rfl) ?_) | (refine kO (awake_D) (kP rfl) ?_) | refine kF ?_); simp +decide only [go_sem, Ent.row]) | (apply kG; (simp +decide only [go_sem, Ent.row]; rfl); all_goals (intro hcnd; first | (exact absurd hcnd (by decide)) | skip)) | ((first | refine kH ?_ ?_ | refine kI ?_ ?_) <;> (intro hcnd; simp +decide only [go_sem, hcnd, Ent.row]))))
  rw [t1] at hR
  cases t2 : fewL [e]
  · rw [t2] at hF
    (repeat' (first | refine kA ?_ | refine kB ?_ | ((first | (refine kC (N := 72) rfl (by kernel_rfl) ?_) | refine kD ?_ | refine kE ?_ | (refine kN (hR) (kP rfl) ?_) | (refine kO (hR) (kP rfl) ?_) | (refine kN (hF) (kP rfl) ?_) | (refine kO (hF) (kP rfl) ?_) | (refine kN (awake_D) (kP rfl) ?_) | (refine kO (awake_D) (kP rfl) ?_) | refine kF ?_); simp +decide only [go_sem, Ent.row]) | (apply kG; (simp +decide only [go_sem, Ent.row]; rfl); all_goals (intro hcnd; first | (exact absurd hcnd (by decide)) | skip)) | ((first | refine kH ?_ ?_ | refine kI ?_ ?_) <;> (intro hcnd; simp +decide only [go_sem, hcnd, Ent.row]))))
  rw [t2] at hF
  have hr := rightB_is t1
  have hf := fewL_iff.1 t2
  have hlen := hr.few.len
  have hm : ∀ x ∈ putLx l e, MidE x := fun x hx => by
    rcases put_mem hx with rfl | hx
    · exact hf.mid x (by simp)
    · exact hr.few.mid x hx
  have hG := rGet_D l e.id (by omega)
  have hgm := @getE_mem l e.id
  have hgh := getE_has l e.id
  generalize getE l e.id = q at hG hgm hgh
  obtain ⟨o, b⟩ := q
  have hP := put_D g l e (by omega) (fun x hx => (hm x hx).links)
  cases t3 : (putE g l e).2 != 0
  rotate_left
  · have hbad := putE_bad (g := g) (l := l) (e := e) (by simpa using t3)
    generalize putE g l e = p at hP t3 hbad
    obtain ⟨ps, n⟩ := p
    simp only at t3 hbad
    subst hbad
    simp only [invRow, Ent.row] at hP hG
    (repeat' (first | refine kA ?_ | refine kB ?_ | ((first | (refine kC (N := 72) rfl (by kernel_rfl) ?_) | refine kD ?_ | refine kE ?_ | (refine kN (hR) (kP rfl) ?_) | (refine kO (hR) (kP rfl) ?_) | (refine kN (hF) (kP rfl) ?_) | (refine kO (hF) (kP rfl) ?_) | (refine kN (hG) (kP rfl) ?_) | (refine kO (hG) (kP rfl) ?_) | (refine kN (hP) (kP rfl) ?_) | (refine kO (hP) (kP rfl) ?_) | (refine kN (awake_D) (kP rfl) ?_) | (refine kO (awake_D) (kP rfl) ?_) | refine kF ?_); simp +decide only [go_sem, t3, Ent.row]) | (apply kG; (simp +decide only [go_sem, t3, Ent.row]; rfl); all_goals (intro hcnd; first | (exact absurd hcnd (by decide)) | skip)) | ((first | refine kH ?_ ?_ | refine kI ?_ ?_) <;> (intro hcnd; simp +decide only [go_sem, hcnd, t3, Ent.row]))))
  obtain ⟨hp, hpr⟩ := putE_ok (g := g) (l := l) (e := e) (by simpa using t3)
  rw [hp] at hP
  have hpl := putLx_len l e
  have hS := same25_D l l (by omega)
  rw [decide_eq_true rfl] at hS
  simp only [invRow, Ent.row] at hP hG
  simp only at hgm hgh
  cases b
  · have hD := drop_D (putLx l e) e.id hpr.up (by omega) (fun x hx => (hm x hx).links)
    rw [drop_put hr.right hpr hgh.symm] at hD
    (repeat' (first | refine kA ?_ | refine kB ?_ | ((first | (refine kC (N := 72) rfl (by kernel_rfl) ?_) | refine kD ?_ | refine kE ?_ | (refine kN (hR) (kP rfl) ?_) | (refine kO (hR) (kP rfl) ?_) | (refine kN (hF) (kP rfl) ?_) | (refine kO (hF) (kP rfl) ?_) | (refine kN (hG) (kP rfl) ?_) | (refine kO (hG) (kP rfl) ?_) | (refine kN (hP) (kP rfl) ?_) | (refine kO (hP) (kP rfl) ?_) | (refine kN (hD) (kP rfl) ?_) | (refine kO (hD) (kP rfl) ?_) | (refine kN (hS) (kP rfl) ?_) | (refine kO (hS) (kP rfl) ?_) | (refine kN (awake_D) (kP rfl) ?_) | (refine kO (awake_D) (kP rfl) ?_) | refine kF ?_); simp +decide only [go_sem, Ent.row]) | (apply kG; (simp +decide only [go_sem, Ent.row]; rfl); all_goals (intro hcnd; first | (exact absurd hcnd (by decide)) | skip)) | ((first | refine kH ?_ ?_ | refine kI ?_ ?_) <;> (intro hcnd; simp +decide only [go_sem, hcnd, Ent.row]))))
  · obtain ⟨ho, hoid⟩ := hgm rfl
    have hback := put_back (e := e) hr.right.up ho hoid
    have hQ := put_D g (putLx l e) o (by omega) (fun x hx => by rw [hback] at hx; exact (hr.few.mid x hx).links)
    rw [putE_of (by rw [hback]; exact (lexE_iff _ _).2 hr.right), hback] at hQ
    simp only [invRow, Ent.row] at hQ
    (repeat' (first | refine kA ?_ | refine kB ?_ | ((first | (refine kC (N := 72) rfl (by kernel_rfl) ?_) | refine kD ?_ | refine kE ?_ | (refine kN (hR) (kP rfl) ?_) | (refine kO (hR) (kP rfl) ?_) | (refine kN (hF) (kP rfl) ?_) | (refine kO (hF) (kP rfl) ?_) | (refine kN (hG) (kP rfl) ?_) | (refine kO (hG) (kP rfl) ?_) | (refine kN (hP) (kP rfl) ?_) | (refine kO (hP) (kP rfl) ?_) | (refine kN (hQ) (kP rfl) ?_) | (refine kO (hQ) (kP rfl) ?_) | (refine kN (hS) (kP rfl) ?_) | (refine kO (hS) (kP rfl) ?_) | (refine kN (awake_D) (kP rfl) ?_) | (refine kO (awake_D) (kP rfl) ?_) | refine kF ?_); simp +decide only [go_sem, Ent.row]) | (apply kG; (simp +decide only [go_sem, Ent.row]; rfl); all_goals (intro hcnd; first | (exact absurd hcnd (by decide)) | skip)) | ((first | refine kH ?_ ?_ | refine kI ?_ ?_) <;> (intro hcnd; simp +decide only [go_sem, hcnd, Ent.row]))))
end Go.Proofs.YtdmmhemfnnbddaaGreatDoor
