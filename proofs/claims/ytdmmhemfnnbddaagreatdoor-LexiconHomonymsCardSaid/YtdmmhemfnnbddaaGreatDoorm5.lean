/- The logic of data over the kit's walk, and contracts of the functions that the laws reach, each said by plain data; part 6 of 6. -/
import Derived.Test.YtdmmhemfnnbddaaGreatDoorm4
set_option linter.all false
set_option linter.unusedVariables false
set_option linter.unusedSimpArgs false
namespace Go.Proofs.YtdmmhemfnnbddaaGreatDoor
abbrev kpm18 : List (Nat × Go.Dl.Mode) := [(0, .light), (1, .light), (2, .light), (3, .light), (4, .light), (5, .light), (6, .light), (7, .light), (8, .light), (9, .light), (10, .light), (11, .light), (12, .light), (13, .light)]
end Go.Proofs.YtdmmhemfnnbddaaGreatDoor
/- Lexicons: an entry put in, the reference. -/
namespace Go.Proofs.YtdmmhemfnnbddaaGreatDoor
open Go.Dl
open Go.Dl renaming dw_seq → kA, dw_block → kB, dw_reg → kC, dw_skip → kD, dw_exit → kE, dw_ret → kF, dw_cond → kG, guardC_f → kH, guardC_t → kI, dw_drw → kJ, dw_weaken → kK, sub_kn → kL, sub_ml → kM
open Go.Dl.CallC renaming mk → kN, light → kO
open Go.Dl.LeL renaming of_eq → kP
attribute [local irreducible] DW DCalls ECalls wk IW

theorem posE_is {l : List Ent} {id : Int} {k : Nat} (hs : UpE l) (hk : k ≤ l.length) (h1 : ∀ x ∈ l.take k, x.id < id) (h2 : ∀ x, l[k]? = some x → ¬ x.id < id) : posE l id = k := by
  obtain ⟨q0, q1, q2⟩ := posE_low l id hs
  rcases Nat.lt_trichotomy (posE l id) k with h | h | h
  · have hx : l[posE l id]? = some l[posE l id] := List.getElem?_eq_getElem (by omega)
    have a1 := h1 l[posE l id] (List.mem_take_iff_getElem.2 ⟨posE l id, by omega, rfl⟩)
    have a2 := q2 l[posE l id] (by have h9 := List.drop_eq_getElem_cons (l := l) (i := posE l id) (by omega); rw [h9]; exact List.mem_cons_self)
    omega
  · exact h
  · have hx : l[k]? = some l[k] := List.getElem?_eq_getElem (by omega)
    have a1 := q1 l[k] (List.mem_take_iff_getElem.2 ⟨k, by omega, rfl⟩)
    exact absurd a1 (h2 _ hx)
theorem putLx_no {l : List Ent} {e : Ent} {k : Nat} (hp : posE l e.id = k) (h : ∀ x, l[k]? = some x → (x.id == e.id) = false) : putLx l e = l.take k ++ e :: l.drop k := by
  have hf : foundE l e.id = false := by
    rw [foundE, hp]
    cases hx : l[k]? with
    | none => rfl
    | some x => exact h x hx
  rw [putLx, hf, hp, if_neg (by decide)]
theorem putLx_yes {l : List Ent} {e : Ent} {k : Nat} (hp : posE l e.id = k) {x : Ent} (hx : l[k]? = some x) (h : (x.id == e.id) = true) : putLx l e = l.take k ++ e :: l.drop (k + 1) := by
  have hf : foundE l e.id = true := by rw [foundE, hp, hx]; exact h
  rw [putLx, hf, hp, if_pos rfl]

set_option maxRecDepth 10000 in
set_option maxHeartbeats 8000000 in
theorem rPut_D (g : List Phon) (l : List Ent) (e : Ent) (hs : UpE l) (hl : l.length ≤ 99999) (hm : ∀ x ∈ putLx l e, MidE x) : DCalls Tryz.prog 31 [.agg (invRow g), dv (.sl 8 (l.map Ent.enc)), .agg e.row] (.tup [dv (.sl 8 ((putE g l e).1.map Ent.enc)), dv (li (putE g l e).2)]) := by
  have hmax : maxLen = 9223372036854775807 := rfl
  have hcl : (l.map Ent.enc).length = l.length := by simp
  obtain ⟨ps, hps⟩ : ∃ ps, putLx l e = ps := ⟨_, rfl⟩
  have hK := rCheckL_D g ps (fun x hx => hm x (hps ▸ hx))
  obtain ⟨n, hn⟩ : ∃ n, lexE g ps = n := ⟨_, rfl⟩
  have hE : putE g l e = if n ≠ 0 then ([], n) else (ps, 0) := by unfold putE; rw [hps, hn]
  rw [hn] at hK
  rw [hE]
  simp only [invRow] at hK
  refine dcalls (N := 66) (rs := [.tmp 6, .tmp 7]) (by kernel_rfl) Tryz.func31 rfl rfl rfl (by simp) ?_
  (repeat' (first | refine kA ?_ | refine kB ?_ | ((first | (refine kC (N := 66) rfl (by kernel_rfl) ?_) | (apply kJ (id := 3) (N := 66) kpm18; kernel_rfl; rfl; kernel_rfl; (repeat (first | exact Picks.nil | (apply Picks.cons; rfl)))) | (apply kJ (id := 7) (N := 66) kpm18; kernel_rfl; rfl; kernel_rfl; (repeat (first | exact Picks.nil | (apply Picks.cons; rfl)))) | refine kD ?_ | refine kE ?_); simp +decide only [go_sem, Ent.row, invRow]) | (apply kG; (simp +decide only [go_sem, Ent.row, invRow]; rfl); all_goals (intro hcnd; first | (exact absurd hcnd (by decide)) | skip)) | ((first | refine kH ?_ ?_ | refine kI ?_ ?_) <;> (intro hcnd; simp +decide only [go_sem, hcnd, Ent.row, invRow]))))
  refine dw_own 8 8 8 (by simp +decide only [go_sem]) ?_
  refine dw_after (fun k : Nat => kn 66 [(1, dv (.sl 8 (l.map Ent.enc))), (3, .one (.bx 3 1 0 0)), (5, .one (.bx 5 8 0 0)), (8, .one (.own 8 8 ((l.take k).map Ent.enc))), (9, dv (li k))] (ml [(3, [invRow g]), (5, [e.row])])) (fun k => k ≤ l.length ∧ (∀ x ∈ l.take k, x.id < e.id) ∧ ∀ x, l[k]? = some x → ¬ x.id < e.id) ?_ ?_
  · refine dw_loop_fam (fun k : Nat => kn 66 [(1, dv (.sl 8 (l.map Ent.enc))), (3, .one (.bx 3 1 0 0)), (5, .one (.bx 5 8 0 0)), (8, .one (.own 8 8 ((l.take k).map Ent.enc))), (9, dv (li k))] (ml [(3, [invRow g]), (5, [e.row])])) (fun k => k ≤ l.length ∧ ∀ x ∈ l.take k, x.id < e.id) (fun k => l.length - k) 0 (kM rfl (by simp +decide only [go_sem, List.take_zero, List.map_nil]) (by simp +decide only [go_sem, invRow, Ent.row])) ⟨Nat.zero_le _, by simp⟩ ?_
    rintro k ⟨hk, h1⟩
    cases t1 : decide ((k : Int) < (l.length : Int))
    · have hke : l.length ≤ k := by simpa using t1
      (repeat' (first | refine kA ?_ | refine kB ?_ | ((first | (refine kC (N := 66) rfl (by kernel_rfl) ?_) | (apply kJ (id := 3) (N := 66) kpm18; kernel_rfl; rfl; kernel_rfl; (repeat (first | exact Picks.nil | (apply Picks.cons; rfl)))) | (apply kJ (id := 7) (N := 66) kpm18; kernel_rfl; rfl; kernel_rfl; (repeat (first | exact Picks.nil | (apply Picks.cons; rfl)))) | refine kD ?_ | refine kE ?_); simp +decide only [go_sem, t1, Ent.row, invRow]) | (apply kG; (simp +decide only [go_sem, t1, Ent.row, invRow]; rfl); all_goals (intro hcnd; first | (exact absurd hcnd (by decide)) | skip)) | ((first | refine kH ?_ ?_ | refine kI ?_ ?_) <;> (intro hcnd; simp +decide only [go_sem, hcnd, t1, Ent.row, invRow]))))
      exact ⟨k, ⟨hk, h1, fun x hx => by rw [List.getElem?_eq_none hke] at hx; cases hx⟩, kM rfl (by simp +decide only [go_sem]) (by simp +decide only [go_sem, invRow, Ent.row])⟩
    · have hkl : k < l.length := by simpa using t1
      obtain ⟨x, hx⟩ : ∃ x, l[k]? = some x := ⟨_, List.getElem?_eq_getElem hkl⟩
      have hw := wrap_succ k (by omega)
      have r1 : (((l.take k).length + 1) * 144 ≤ 140737488355328) = True := eq_true (by rw [List.length_take]; omega)
      cases t2 : decide (x.id < e.id)
      · (repeat' (first | refine kA ?_ | refine kB ?_ | ((first | (refine kC (N := 66) rfl (by kernel_rfl) ?_) | (apply kJ (id := 3) (N := 66) kpm18; kernel_rfl; rfl; kernel_rfl; (repeat (first | exact Picks.nil | (apply Picks.cons; rfl)))) | (apply kJ (id := 7) (N := 66) kpm18; kernel_rfl; rfl; kernel_rfl; (repeat (first | exact Picks.nil | (apply Picks.cons; rfl)))) | refine kD ?_ | refine kE ?_); simp +decide only [go_sem, t1, t2, hx, Ent.enc, Ent.row, invRow]) | (apply kG; (simp +decide only [go_sem, t1, t2, hx, Ent.enc, Ent.row, invRow]; rfl); all_goals (intro hcnd; first | (exact absurd hcnd (by decide)) | skip)) | ((first | refine kH ?_ ?_ | refine kI ?_ ?_) <;> (intro hcnd; simp +decide only [go_sem, hcnd, t1, t2, hx, Ent.enc, Ent.row, invRow]))))
        exact ⟨k, ⟨hk, h1, fun y hy => by rw [hx] at hy; injection hy with hy; subst hy; simpa using t2⟩, kM rfl (by simp +decide only [go_sem]) (by simp +decide only [go_sem, invRow, Ent.row])⟩
      · have htk : l.take (k + 1) = l.take k ++ [x] := take_snoc hx
        (repeat' (first | refine kA ?_ | refine kB ?_ | ((first | (refine kC (N := 66) rfl (by kernel_rfl) ?_) | (apply kJ (id := 3) (N := 66) kpm18; kernel_rfl; rfl; kernel_rfl; (repeat (first | exact Picks.nil | (apply Picks.cons; rfl)))) | (apply kJ (id := 7) (N := 66) kpm18; kernel_rfl; rfl; kernel_rfl; (repeat (first | exact Picks.nil | (apply Picks.cons; rfl)))) | refine kD ?_ | refine kE ?_); simp +decide only [go_sem, t1, t2, hx, hw, r1, Ent.enc, Ent.row, invRow]) | (apply kG; (simp +decide only [go_sem, t1, t2, hx, hw, r1, Ent.enc, Ent.row, invRow]; rfl); all_goals (intro hcnd; first | (exact absurd hcnd (by decide)) | skip)) | ((first | refine kH ?_ ?_ | refine kI ?_ ?_) <;> (intro hcnd; simp +decide only [go_sem, hcnd, t1, t2, hx, hw, r1, Ent.enc, Ent.row, invRow]))))
        exact ⟨k + 1, ⟨by omega, fun y hy => by
          rw [htk] at hy
          rcases List.mem_append.1 hy with hy | hy
          · exact h1 y hy
          · rw [List.mem_singleton.1 hy]; simpa using t2⟩, by omega, kM rfl (by simp +decide only [go_sem, htk, List.map_append, Ent.enc]) (by simp +decide only [go_sem, invRow, Ent.row])⟩
  rintro k ⟨hk, h1, h2⟩
  have hp := posE_is hs hk h1 h2
  have r1 : (((l.take k).length + 1) * 144 ≤ 140737488355328) = True := eq_true (by rw [List.length_take]; omega)
  have hw := wrap_succ k (by omega)
  have hkk : (l.take k).length = k := by rw [List.length_take]; omega
  have htI : List.take l.length (l.map Ent.enc) = l.map Ent.enc := List.take_of_length_le (by simp)
  have hdI : ∀ m, List.drop m (l.map Ent.enc) = (l.drop m).map Ent.enc := fun m => by simp [List.map_drop]
  have hfin : ∀ m, (l.take k).map Ent.enc ++ [Ent.enc e] ++ (l.drop m).map Ent.enc = (l.take k ++ e :: l.drop m).map Ent.enc := fun m => by simp
  have r2 : ∀ m, m ≤ l.length → (((l.take k).length + 1 + (l.length - m)) * 144 ≤ 140737488355328) = True := fun m hm => eq_true (by rw [hkk]; omega)
  simp only [Ent.enc] at hfin
  cases t1 : decide ((k : Int) < (l.length : Int))
  · have hke : l.length ≤ k := by simpa using t1
    have hput := putLx_no hp (fun x hx => by rw [List.getElem?_eq_none hke] at hx; cases hx)
    rw [hps] at hput
    have hlo := r2 k hk
    have hkT : (k ≤ l.length) = True := eq_true hk
    (repeat' (first | refine kA ?_ | refine kB ?_ | ((first | (refine kC (N := 66) rfl (by kernel_rfl) ?_) | (apply kJ (id := 3) (N := 66) kpm18; kernel_rfl; rfl; kernel_rfl; (repeat (first | exact Picks.nil | (apply Picks.cons; rfl)))) | (apply kJ (id := 7) (N := 66) kpm18; kernel_rfl; rfl; kernel_rfl; (repeat (first | exact Picks.nil | (apply Picks.cons; rfl)))) | refine kD ?_ | refine kE ?_); simp +decide only [go_sem, t1, r1, hlo, hkT, htI, hdI, Int.toNat_natCast, List.length_append, List.length_map, List.length_cons, List.length_nil, List.length_drop, Ent.enc, Ent.row, invRow]) | (apply kG; (simp +decide only [go_sem, t1, r1, hlo, hkT, htI, hdI, Int.toNat_natCast, List.length_append, List.length_map, List.length_cons, List.length_nil, List.length_drop, Ent.enc, Ent.row, invRow]; rfl); all_goals (intro hcnd; first | (exact absurd hcnd (by decide)) | skip)) | ((first | refine kH ?_ ?_ | refine kI ?_ ?_) <;> (intro hcnd; simp +decide only [go_sem, hcnd, t1, r1, hlo, hkT, htI, hdI, Int.toNat_natCast, List.length_append, List.length_map, List.length_cons, List.length_nil, List.length_drop, Ent.enc, Ent.row, invRow]))))
    rw [hfin, ← hput]
    cases t9 : n != 0
    · have n1 : n = 0 := by simpa using t9
      rw [if_neg (by simpa using n1)]
      (repeat' (first | refine kA ?_ | refine kB ?_ | ((first | (refine kC (N := 66) rfl (by kernel_rfl) ?_) | (apply kJ (id := 3) (N := 66) kpm18; kernel_rfl; rfl; kernel_rfl; (repeat (first | exact Picks.nil | (apply Picks.cons; rfl)))) | (apply kJ (id := 7) (N := 66) kpm18; kernel_rfl; rfl; kernel_rfl; (repeat (first | exact Picks.nil | (apply Picks.cons; rfl)))) | refine kD ?_ | refine kE ?_ | (refine kN (hK) (kP rfl) ?_) | (refine kO (hK) (kP rfl) ?_)); simp +decide only [go_sem, t9, Ent.row, invRow]) | (apply kG; (simp +decide only [go_sem, t9, Ent.row, invRow]; rfl); all_goals (intro hcnd; first | (exact absurd hcnd (by decide)) | skip)) | ((first | refine kH ?_ ?_ | refine kI ?_ ?_) <;> (intro hcnd; simp +decide only [go_sem, hcnd, t9, Ent.row, invRow]))))
      refine dw_slot 6 _ (DLe.own_ _ _ _) ?_
      refine kF ?_; simp +decide only [go_sem]
    · have n1 : n ≠ 0 := by simpa using t9
      rw [if_pos n1]
      (repeat' (first | refine kA ?_ | refine kB ?_ | ((first | (refine kC (N := 66) rfl (by kernel_rfl) ?_) | (apply kJ (id := 3) (N := 66) kpm18; kernel_rfl; rfl; kernel_rfl; (repeat (first | exact Picks.nil | (apply Picks.cons; rfl)))) | (apply kJ (id := 7) (N := 66) kpm18; kernel_rfl; rfl; kernel_rfl; (repeat (first | exact Picks.nil | (apply Picks.cons; rfl)))) | refine kD ?_ | refine kE ?_ | (refine kN (hK) (kP rfl) ?_) | (refine kO (hK) (kP rfl) ?_)); simp +decide only [go_sem, t9, Ent.row, invRow]) | (apply kG; (simp +decide only [go_sem, t9, Ent.row, invRow]; rfl); all_goals (intro hcnd; first | (exact absurd hcnd (by decide)) | skip)) | ((first | refine kH ?_ ?_ | refine kI ?_ ?_) <;> (intro hcnd; simp +decide only [go_sem, hcnd, t9, Ent.row, invRow]))))
      refine dw_slot 6 (dv (.sl 8 [])) (by simp +decide only [go_sem]) ?_
      refine kF ?_; simp +decide only [go_sem]
  · have hkl : k < l.length := by simpa using t1
    obtain ⟨x, hx⟩ : ∃ x, l[k]? = some x := ⟨_, List.getElem?_eq_getElem hkl⟩
    cases t2 : x.id == e.id
    · have hput := putLx_no hp (fun y hy => by rw [hx] at hy; injection hy with hy; rw [← hy]; exact t2)
      rw [hps] at hput
      have hlo := r2 k hk
      have hkT : (k ≤ l.length) = True := eq_true hk
      (repeat' (first | refine kA ?_ | refine kB ?_ | ((first | (refine kC (N := 66) rfl (by kernel_rfl) ?_) | (apply kJ (id := 3) (N := 66) kpm18; kernel_rfl; rfl; kernel_rfl; (repeat (first | exact Picks.nil | (apply Picks.cons; rfl)))) | (apply kJ (id := 7) (N := 66) kpm18; kernel_rfl; rfl; kernel_rfl; (repeat (first | exact Picks.nil | (apply Picks.cons; rfl)))) | refine kD ?_ | refine kE ?_); simp +decide only [go_sem, t1, hx, t2, r1, hlo, hkT, htI, hdI, Int.toNat_natCast, List.length_append, List.length_map, List.length_cons, List.length_nil, List.length_drop, Ent.enc, Ent.row, invRow]) | (apply kG; (simp +decide only [go_sem, t1, hx, t2, r1, hlo, hkT, htI, hdI, Int.toNat_natCast, List.length_append, List.length_map, List.length_cons, List.length_nil, List.length_drop, Ent.enc, Ent.row, invRow]; rfl); all_goals (intro hcnd; first | (exact absurd hcnd (by decide)) | skip)) | ((first | refine kH ?_ ?_ | refine kI ?_ ?_) <;> (intro hcnd; simp +decide only [go_sem, hcnd, t1, hx, t2, r1, hlo, hkT, htI, hdI, Int.toNat_natCast, List.length_append, List.length_map, List.length_cons, List.length_nil, List.length_drop, Ent.enc, Ent.row, invRow]))))
      rw [hfin, ← hput]
      cases t9 : n != 0
      · have n1 : n = 0 := by simpa using t9
        rw [if_neg (by simpa using n1)]
        (repeat' (first | refine kA ?_ | refine kB ?_ | ((first | (refine kC (N := 66) rfl (by kernel_rfl) ?_) | (apply kJ (id := 3) (N := 66) kpm18; kernel_rfl; rfl; kernel_rfl; (repeat (first | exact Picks.nil | (apply Picks.cons; rfl)))) | (apply kJ (id := 7) (N := 66) kpm18; kernel_rfl; rfl; kernel_rfl; (repeat (first | exact Picks.nil | (apply Picks.cons; rfl)))) | refine kD ?_ | refine kE ?_ | (refine kN (hK) (kP rfl) ?_) | (refine kO (hK) (kP rfl) ?_)); simp +decide only [go_sem, t9, Ent.row, invRow]) | (apply kG; (simp +decide only [go_sem, t9, Ent.row, invRow]; rfl); all_goals (intro hcnd; first | (exact absurd hcnd (by decide)) | skip)) | ((first | refine kH ?_ ?_ | refine kI ?_ ?_) <;> (intro hcnd; simp +decide only [go_sem, hcnd, t9, Ent.row, invRow]))))
        refine dw_slot 6 _ (DLe.own_ _ _ _) ?_
        refine kF ?_; simp +decide only [go_sem]
      · have n1 : n ≠ 0 := by simpa using t9
        rw [if_pos n1]
        (repeat' (first | refine kA ?_ | refine kB ?_ | ((first | (refine kC (N := 66) rfl (by kernel_rfl) ?_) | (apply kJ (id := 3) (N := 66) kpm18; kernel_rfl; rfl; kernel_rfl; (repeat (first | exact Picks.nil | (apply Picks.cons; rfl)))) | (apply kJ (id := 7) (N := 66) kpm18; kernel_rfl; rfl; kernel_rfl; (repeat (first | exact Picks.nil | (apply Picks.cons; rfl)))) | refine kD ?_ | refine kE ?_ | (refine kN (hK) (kP rfl) ?_) | (refine kO (hK) (kP rfl) ?_)); simp +decide only [go_sem, t9, Ent.row, invRow]) | (apply kG; (simp +decide only [go_sem, t9, Ent.row, invRow]; rfl); all_goals (intro hcnd; first | (exact absurd hcnd (by decide)) | skip)) | ((first | refine kH ?_ ?_ | refine kI ?_ ?_) <;> (intro hcnd; simp +decide only [go_sem, hcnd, t9, Ent.row, invRow]))))
        refine dw_slot 6 (dv (.sl 8 [])) (by simp +decide only [go_sem]) ?_
        refine kF ?_; simp +decide only [go_sem]
    · have hput := putLx_yes hp hx t2
      rw [hps] at hput
      have hlo := r2 (k + 1) hkl
      have hkT : (k + 1 ≤ l.length) = True := eq_true hkl
      (repeat' (first | refine kA ?_ | refine kB ?_ | ((first | (refine kC (N := 66) rfl (by kernel_rfl) ?_) | (apply kJ (id := 3) (N := 66) kpm18; kernel_rfl; rfl; kernel_rfl; (repeat (first | exact Picks.nil | (apply Picks.cons; rfl)))) | (apply kJ (id := 7) (N := 66) kpm18; kernel_rfl; rfl; kernel_rfl; (repeat (first | exact Picks.nil | (apply Picks.cons; rfl)))) | refine kD ?_ | refine kE ?_); simp +decide only [go_sem, t1, hx, t2, hw, r1, hlo, hkT, htI, hdI, Int.toNat_natCast, List.length_append, List.length_map, List.length_cons, List.length_nil, List.length_drop, Ent.enc, Ent.row, invRow]) | (apply kG; (simp +decide only [go_sem, t1, hx, t2, hw, r1, hlo, hkT, htI, hdI, Int.toNat_natCast, List.length_append, List.length_map, List.length_cons, List.length_nil, List.length_drop, Ent.enc, Ent.row, invRow]; rfl); all_goals (intro hcnd; first | (exact absurd hcnd (by decide)) | skip)) | ((first | refine kH ?_ ?_ | refine kI ?_ ?_) <;> (intro hcnd; simp +decide only [go_sem, hcnd, t1, hx, t2, hw, r1, hlo, hkT, htI, hdI, Int.toNat_natCast, List.length_append, List.length_map, List.length_cons, List.length_nil, List.length_drop, Ent.enc, Ent.row, invRow]))))
      rw [hfin, ← hput]
      cases t9 : n != 0
      · have n1 : n = 0 := by simpa using t9
        rw [if_neg (by simpa using n1)]
        (repeat' (first | refine kA ?_ | refine kB ?_ | ((first | (refine kC (N := 66) rfl (by kernel_rfl) ?_) | (apply kJ (id := 3) (N := 66) kpm18; kernel_rfl; rfl; kernel_rfl; (repeat (first | exact Picks.nil | (apply Picks.cons; rfl)))) | (apply kJ (id := 7) (N := 66) kpm18; kernel_rfl; rfl; kernel_rfl; (repeat (first | exact Picks.nil | (apply Picks.cons; rfl)))) | refine kD ?_ | refine kE ?_ | (refine kN (hK) (kP rfl) ?_) | (refine kO (hK) (kP rfl) ?_)); simp +decide only [go_sem, t9, Ent.row, invRow]) | (apply kG; (simp +decide only [go_sem, t9, Ent.row, invRow]; rfl); all_goals (intro hcnd; first | (exact absurd hcnd (by decide)) | skip)) | ((first | refine kH ?_ ?_ | refine kI ?_ ?_) <;> (intro hcnd; simp +decide only [go_sem, hcnd, t9, Ent.row, invRow]))))
        refine dw_slot 6 _ (DLe.own_ _ _ _) ?_
        refine kF ?_; simp +decide only [go_sem]
      · have n1 : n ≠ 0 := by simpa using t9
        rw [if_pos n1]
        (repeat' (first | refine kA ?_ | refine kB ?_ | ((first | (refine kC (N := 66) rfl (by kernel_rfl) ?_) | (apply kJ (id := 3) (N := 66) kpm18; kernel_rfl; rfl; kernel_rfl; (repeat (first | exact Picks.nil | (apply Picks.cons; rfl)))) | (apply kJ (id := 7) (N := 66) kpm18; kernel_rfl; rfl; kernel_rfl; (repeat (first | exact Picks.nil | (apply Picks.cons; rfl)))) | refine kD ?_ | refine kE ?_ | (refine kN (hK) (kP rfl) ?_) | (refine kO (hK) (kP rfl) ?_)); simp +decide only [go_sem, t9, Ent.row, invRow]) | (apply kG; (simp +decide only [go_sem, t9, Ent.row, invRow]; rfl); all_goals (intro hcnd; first | (exact absurd hcnd (by decide)) | skip)) | ((first | refine kH ?_ ?_ | refine kI ?_ ?_) <;> (intro hcnd; simp +decide only [go_sem, hcnd, t9, Ent.row, invRow]))))
        refine dw_slot 6 (dv (.sl 8 [])) (by simp +decide only [go_sem]) ?_
        refine kF ?_; simp +decide only [go_sem]
end Go.Proofs.YtdmmhemfnnbddaaGreatDoor

namespace Go.Proofs.YtdmmhemfnnbddaaGreatDoor
abbrev kpm19 : List (Nat × Go.Dl.Mode) := [(0, .light), (1, .light), (2, .light), (3, .light), (4, .light), (5, .light), (6, .light), (7, .light), (8, .step), (9, .light)]
end Go.Proofs.YtdmmhemfnnbddaaGreatDoor
/- Lexicons compared. -/
namespace Go.Proofs.YtdmmhemfnnbddaaGreatDoor
open Go.Dl
open Go.Dl renaming dw_seq → kA, dw_block → kB, dw_reg → kC, dw_skip → kD, dw_exit → kE, dw_ret → kF, dw_cond → kG, guardC_f → kH, guardC_t → kI, dw_drw → kJ, dw_weaken → kK, sub_kn → kL, sub_ml → kM
open Go.Dl.CallC renaming mk → kN, light → kO
open Go.Dl.LeL renaming of_eq → kP
attribute [local irreducible] DW DCalls ECalls wk IW

set_option maxRecDepth 10000 in
set_option maxHeartbeats 4000000 in
theorem same25_D (xs ys : List Ent) (hx : xs.length ≤ maxLen) : DCalls Tryz.prog 32 [dv (.sl 8 (xs.map Ent.enc)), dv (.sl 8 (ys.map Ent.enc))] (dv (lb (decide (xs = ys)))) := by
  refine dcalls (N := 27) (rs := [.tmp 4]) (by kernel_rfl) Tryz.func32 rfl rfl rfl (by simp) ?_
  (repeat' (first | refine kA ?_ | refine kB ?_ | ((first | (refine kC (N := 27) rfl (by kernel_rfl) ?_) | (apply kJ (id := 6) (N := 27) kpm19; kernel_rfl; rfl; kernel_rfl; (repeat (first | exact Picks.nil | (apply Picks.cons; rfl)))) | refine kD ?_ | refine kE ?_ | refine kF ?_); simp +decide only [go_sem]) | (apply kG; (simp +decide only [go_sem]; rfl); all_goals (intro hcnd; first | (exact absurd hcnd (by decide)) | skip))))
  · have : xs ≠ ys := fun e => by subst e; simp at hcnd
    simp [this]
  · have hl : xs.length = ys.length := by simp at hcnd; omega
    refine dw_rngI xs (fun k => kn 27 [(0, dv (.sl 8 (xs.map Ent.enc))), (1, dv (.sl 8 (ys.map Ent.enc))), (12, dv (li xs.length)), (13, dv (li k))] noMem) (fun k => xs.take k = ys.take k) hx (kL rfl (by simp +decide only [go_sem]) (by simp [noMem])) rfl ?_ ?_
    · intro k x hx hk hm htk hlt hw hi
      have hyk : k < ys.length := by omega
      have hy : ys[k]? = some ys[k] := List.getElem?_eq_getElem hyk
      have hS := same24_D x ys[k]
      simp only [Ent.row] at hS
      by_cases h4 : x = ys[k]
      · have h5 : decide (x = ys[k]) = true := by simpa using h4
        rw [h5] at hS
        (repeat' (first | refine kA ?_ | refine kB ?_ | ((first | (refine kC (N := 27) rfl (by kernel_rfl) ?_) | (apply kJ (id := 6) (N := 27) kpm19; kernel_rfl; rfl; kernel_rfl; (repeat (first | exact Picks.nil | (apply Picks.cons; rfl)))) | refine kD ?_ | refine kE ?_ | (refine kN (hS) (kP rfl) ?_) | (refine kO (hS) (kP rfl) ?_) | refine kF ?_); simp +decide only [go_sem, hlt, hw, hx, hy, Ent.enc]) | (apply kG; (simp +decide only [go_sem, hlt, hw, hx, hy, Ent.enc]; rfl); all_goals (intro hcnd; first | (exact absurd hcnd (by decide)) | skip))))
        exact ⟨by rw [htk, hi, h4, ← take_snoc hy], kL rfl (by simp +decide only [go_sem]) (by simp [noMem])⟩
      · have h5 : decide (x = ys[k]) = false := by simpa using h4
        rw [h5] at hS
        (repeat' (first | refine kA ?_ | refine kB ?_ | ((first | (refine kC (N := 27) rfl (by kernel_rfl) ?_) | (apply kJ (id := 6) (N := 27) kpm19; kernel_rfl; rfl; kernel_rfl; (repeat (first | exact Picks.nil | (apply Picks.cons; rfl)))) | refine kD ?_ | refine kE ?_ | (refine kN (hS) (kP rfl) ?_) | (refine kO (hS) (kP rfl) ?_) | refine kF ?_); simp +decide only [go_sem, hlt, hw, hx, hy, Ent.enc]) | (apply kG; (simp +decide only [go_sem, hlt, hw, hx, hy, Ent.enc]; rfl); all_goals (intro hcnd; first | (exact absurd hcnd (by decide)) | skip))))
        have : xs ≠ ys := fun e => by
          subst e; rw [hx] at hy; injection hy with hy; exact h4 hy
        simp [this]
    · intro hlt hi
      rw [List.take_length, hl, List.take_length] at hi
      (repeat' (first | refine kA ?_ | refine kB ?_ | ((first | (refine kC (N := 27) rfl (by kernel_rfl) ?_) | (apply kJ (id := 6) (N := 27) kpm19; kernel_rfl; rfl; kernel_rfl; (repeat (first | exact Picks.nil | (apply Picks.cons; rfl)))) | refine kD ?_ | refine kE ?_ | refine kF ?_); simp +decide only [go_sem, hlt]) | (apply kG; (simp +decide only [go_sem, hlt]; rfl); all_goals (intro hcnd; first | (exact absurd hcnd (by decide)) | skip))))
      simp [hi]

set_option maxRecDepth 10000 in
set_option maxHeartbeats 4000000 in
theorem eqN_D (xs ys : List Ent) (hx : xs.length ≤ maxLen) : DCalls Tryz.prog 66 [dv (.sl 8 (xs.map Ent.enc)), dv (.sl 8 (ys.map Ent.enc)), dv (.fn 67 [])] (dv (lb (decide (xs = ys)))) := by
  refine dcalls (N := 32) (rs := [.tmp 6]) (by kernel_rfl) Tryz.func66 rfl rfl rfl (by simp) ?_
  (repeat' (first | refine kA ?_ | refine kB ?_ | ((first | (refine kC (N := 32) rfl (by kernel_rfl) ?_) | refine kD ?_ | refine kE ?_ | refine kF ?_); simp +decide only [go_sem]) | (apply kG; (simp +decide only [go_sem]; rfl); all_goals (intro hcnd; first | (exact absurd hcnd (by decide)) | skip))))
  · have : xs ≠ ys := fun e => by subst e; simp at hcnd
    simp [this]
  · have hl : xs.length = ys.length := by simp at hcnd; omega
    refine dw_rngI xs (fun k => kn 32 [(1, dv (.sl 8 (ys.map Ent.enc))), (2, dv (.fn 67 [])), (15, dv (.sl 8 (xs.map Ent.enc))), (16, dv (li xs.length)), (17, dv (li k))] noMem) (fun k => xs.take k = ys.take k) hx (kL rfl (by simp +decide only [go_sem]) (by simp [noMem])) rfl ?_ ?_
    · intro k x hx hk hm htk hlt hw hi
      have hyk : k < ys.length := by omega
      have hy : ys[k]? = some ys[k] := List.getElem?_eq_getElem hyk
      have hS := same_D x ys[k]
      simp only [Ent.row] at hS
      by_cases h4 : x = ys[k]
      · have h5 : decide (x = ys[k]) = true := by simpa using h4
        rw [h5] at hS
        (repeat' (first | refine kA ?_ | refine kB ?_ | ((first | (refine kC (N := 32) rfl (by kernel_rfl) ?_) | refine kD ?_ | refine kE ?_ | (refine kN (hS) (kP rfl) ?_) | (refine kO (hS) (kP rfl) ?_) | refine kF ?_); simp +decide only [go_sem, hlt, hw, hx, hy, Ent.enc]) | (apply kG; (simp +decide only [go_sem, hlt, hw, hx, hy, Ent.enc]; rfl); all_goals (intro hcnd; first | (exact absurd hcnd (by decide)) | skip))))
        exact ⟨by rw [htk, hi, h4, ← take_snoc hy], kL rfl (by simp +decide only [go_sem]) (by simp [noMem])⟩
      · have h5 : decide (x = ys[k]) = false := by simpa using h4
        rw [h5] at hS
        (repeat' (first | refine kA ?_ | refine kB ?_ | ((first | (refine kC (N := 32) rfl (by kernel_rfl) ?_) | refine kD ?_ | refine kE ?_ | (refine kN (hS) (kP rfl) ?_) | (refine kO (hS) (kP rfl) ?_) | refine kF ?_); simp +decide only [go_sem, hlt, hw, hx, hy, Ent.enc]) | (apply kG; (simp +decide only [go_sem, hlt, hw, hx, hy, Ent.enc]; rfl); all_goals (intro hcnd; first | (exact absurd hcnd (by decide)) | skip))))
        have : xs ≠ ys := fun e => by
          subst e; rw [hx] at hy; injection hy with hy; exact h4 hy
        simp [this]
    · intro hlt hi
      rw [List.take_length, hl, List.take_length] at hi
      (repeat' (first | refine kA ?_ | refine kB ?_ | ((first | (refine kC (N := 32) rfl (by kernel_rfl) ?_) | refine kD ?_ | refine kE ?_ | refine kF ?_); simp +decide only [go_sem, hlt]) | (apply kG; (simp +decide only [go_sem, hlt]; rfl); all_goals (intro hcnd; first | (exact absurd hcnd (by decide)) | skip))))
      simp [hi]

set_option maxRecDepth 10000 in
theorem sameL_D (xs ys : List Ent) (hx : xs.length ≤ maxLen) : DCalls Tryz.prog 35 [dv (.sl 8 (xs.map Ent.enc)), dv (.sl 8 (ys.map Ent.enc))] (dv (lb (decide (xs = ys)))) := by
  refine dcalls (N := 8) (rs := [.tmp 4]) (by kernel_rfl) Tryz.func35 rfl rfl rfl (by simp) ?_
  (repeat' (first | refine kA ?_ | refine kB ?_ | ((first | (refine kC (N := 8) rfl (by kernel_rfl) ?_) | refine kD ?_ | refine kE ?_ | (refine kN (eqN_D xs ys hx) (kP rfl) ?_) | (refine kO (eqN_D xs ys hx) (kP rfl) ?_) | refine kF ?_); simp +decide only [go_sem]) | (apply kG; (simp +decide only [go_sem]; rfl); all_goals (intro hcnd; first | (exact absurd hcnd (by decide)) | skip))))
end Go.Proofs.YtdmmhemfnnbddaaGreatDoor

/- Lexicons: few entries; the other entries. -/
namespace Go.Proofs.YtdmmhemfnnbddaaGreatDoor
open Go.Dl
open Go.Dl renaming dw_seq → kA, dw_block → kB, dw_reg → kC, dw_skip → kD, dw_exit → kE, dw_ret → kF, dw_cond → kG, guardC_f → kH, guardC_t → kI, dw_drw → kJ, dw_weaken → kK, sub_kn → kL, sub_ml → kM
open Go.Dl.CallC renaming mk → kN, light → kO
open Go.Dl.LeL renaming of_eq → kP
attribute [local irreducible] DW DCalls ECalls wk IW

structure Few25 (e : Ent) : Prop where
  form : e.form.length ≤ 40
  alts : e.alts.length ≤ 6
  senses : e.senses.length ≤ 10
  links : e.links.length ≤ 20
  refs : e.refs.length ≤ 20
  alt : ∀ a ∈ e.alts, a.length ≤ 40
  strs : ∀ s ∈ e.senses, s.gloss.size ≤ 100 ∧ s.txt.size ≤ 400
structure FewL (l : List Ent) : Prop where
  len : l.length ≤ 110
  each : ∀ e ∈ l, Few25 e
noncomputable def fewL (l : List Ent) : Bool := @decide (FewL l) (Classical.propDecidable _)
theorem fewL_t {l : List Ent} (h : FewL l) : fewL l = true := by simp [fewL, h]
theorem fewL_f {l : List Ent} (h : ¬ FewL l) : fewL l = false := by simp [fewL, h]
theorem fewL_iff {l : List Ent} : fewL l = true ↔ FewL l := by simp [fewL]
theorem Few25.mid {e : Ent} (h : Few25 e) : MidE e := ⟨by have := h.form; omega, by have := h.alts; omega, fun a ha => by have := h.alt a ha; omega, by have := h.senses; omega, by have := h.links; omega, by have := h.refs; omega, fun s hs => by have := h.strs s hs; omega⟩

set_option maxRecDepth 10000 in
set_option maxHeartbeats 8000000 in
theorem fewL_D (l : List Ent) : DCalls Tryz.prog 16 [dv (.sl 8 (l.map Ent.enc))] (dv (lb (fewL l))) := by
  have hmax : maxLen = 9223372036854775807 := rfl
  refine dcalls (N := 87) (rs := [.tmp 2]) (by kernel_rfl) Tryz.func16 rfl rfl rfl (by simp) ?_
  cases h0 : decide ((110 : Int) < (l.length : Int))
  rotate_left
  · (repeat' (first | refine kA ?_ | refine kB ?_ | ((first | (refine kC (N := 87) rfl (by kernel_rfl) ?_) | refine kD ?_ | refine kE ?_ | refine kF ?_); simp +decide only [go_sem, h0]) | (apply kG; (simp +decide only [go_sem, h0]; rfl); all_goals (intro hcnd; first | (exact absurd hcnd (by decide)) | skip)) | ((first | refine kH ?_ ?_ | refine kI ?_ ?_) <;> (intro hcnd; simp +decide only [go_sem, hcnd, h0]))))
    rw [fewL_f (fun h => by have := h.len; simp at h0; omega)]
  have hl : l.length ≤ 110 := by simp at h0; omega
  (repeat' (first | refine kA ?_ | refine kB ?_ | ((first | (refine kC (N := 87) rfl (by kernel_rfl) ?_) | refine kD ?_ | refine kE ?_); simp +decide only [go_sem, h0]) | (apply kG; (simp +decide only [go_sem, h0]; rfl); all_goals (intro hcnd; first | (exact absurd hcnd (by decide)) | skip)) | ((first | refine kH ?_ ?_ | refine kI ?_ ?_) <;> (intro hcnd; simp +decide only [go_sem, hcnd, h0]))))
  refine dw_rngI l (fun k => kn 87 [(0, dv (.sl 8 (l.map Ent.enc))), (11, dv (li l.length)), (12, dv (li k))] noMem) (fun k => ∀ e ∈ l.take k, Few25 e) (by omega) (kL rfl (by simp +decide only [go_sem]) (by simp [noMem])) (by simp) ?_ ?_
  · intro k e he hk hm htk hlt hw hi
    cases c1 : decide ((40 : Int) < (e.form.length : Int))
    rotate_left
    · (repeat' (first | refine kA ?_ | refine kB ?_ | ((first | (refine kC (N := 87) rfl (by kernel_rfl) ?_) | refine kD ?_ | refine kE ?_ | refine kF ?_); simp +decide only [go_sem, hlt, hw, he, Ent.enc, c1]) | (apply kG; (simp +decide only [go_sem, hlt, hw, he, Ent.enc, c1]; rfl); all_goals (intro hcnd; first | (exact absurd hcnd (by decide)) | skip)) | ((first | refine kH ?_ ?_ | refine kI ?_ ?_) <;> (intro hcnd; simp +decide only [go_sem, hcnd, hlt, hw, he, Ent.enc, c1]))))
      rw [fewL_f (fun h => by have := (h.each e hm).form; simp at c1; omega)]
    cases c2 : decide ((6 : Int) < (e.alts.length : Int))
    rotate_left
    · (repeat' (first | refine kA ?_ | refine kB ?_ | ((first | (refine kC (N := 87) rfl (by kernel_rfl) ?_) | refine kD ?_ | refine kE ?_ | refine kF ?_); simp +decide only [go_sem, hlt, hw, he, Ent.enc, c1, c2]) | (apply kG; (simp +decide only [go_sem, hlt, hw, he, Ent.enc, c1, c2]; rfl); all_goals (intro hcnd; first | (exact absurd hcnd (by decide)) | skip)) | ((first | refine kH ?_ ?_ | refine kI ?_ ?_) <;> (intro hcnd; simp +decide only [go_sem, hcnd, hlt, hw, he, Ent.enc, c1, c2]))))
      rw [fewL_f (fun h => by have := (h.each e hm).alts; simp at c2; omega)]
    cases c3 : decide ((10 : Int) < (e.senses.length : Int))
    rotate_left
    · (repeat' (first | refine kA ?_ | refine kB ?_ | ((first | (refine kC (N := 87) rfl (by kernel_rfl) ?_) | refine kD ?_ | refine kE ?_ | refine kF ?_); simp +decide only [go_sem, hlt, hw, he, Ent.enc, c1, c2, c3]) | (apply kG; (simp +decide only [go_sem, hlt, hw, he, Ent.enc, c1, c2, c3]; rfl); all_goals (intro hcnd; first | (exact absurd hcnd (by decide)) | skip)) | ((first | refine kH ?_ ?_ | refine kI ?_ ?_) <;> (intro hcnd; simp +decide only [go_sem, hcnd, hlt, hw, he, Ent.enc, c1, c2, c3]))))
      rw [fewL_f (fun h => by have := (h.each e hm).senses; simp at c3; omega)]
    cases c4 : decide ((20 : Int) < (e.links.length : Int))
    rotate_left
    · (repeat' (first | refine kA ?_ | refine kB ?_ | ((first | (refine kC (N := 87) rfl (by kernel_rfl) ?_) | refine kD ?_ | refine kE ?_ | refine kF ?_); simp +decide only [go_sem, hlt, hw, he, Ent.enc, c1, c2, c3, c4]) | (apply kG; (simp +decide only [go_sem, hlt, hw, he, Ent.enc, c1, c2, c3, c4]; rfl); all_goals (intro hcnd; first | (exact absurd hcnd (by decide)) | skip)) | ((first | refine kH ?_ ?_ | refine kI ?_ ?_) <;> (intro hcnd; simp +decide only [go_sem, hcnd, hlt, hw, he, Ent.enc, c1, c2, c3, c4]))))
      rw [fewL_f (fun h => by have := (h.each e hm).links; simp at c4; omega)]
    cases c5 : decide ((20 : Int) < (e.refs.length : Int))
    rotate_left
    · (repeat' (first | refine kA ?_ | refine kB ?_ | ((first | (refine kC (N := 87) rfl (by kernel_rfl) ?_) | refine kD ?_ | refine kE ?_ | refine kF ?_); simp +decide only [go_sem, hlt, hw, he, Ent.enc, c1, c2, c3, c4, c5]) | (apply kG; (simp +decide only [go_sem, hlt, hw, he, Ent.enc, c1, c2, c3, c4, c5]; rfl); all_goals (intro hcnd; first | (exact absurd hcnd (by decide)) | skip)) | ((first | refine kH ?_ ?_ | refine kI ?_ ?_) <;> (intro hcnd; simp +decide only [go_sem, hcnd, hlt, hw, he, Ent.enc, c1, c2, c3, c4, c5]))))
      rw [fewL_f (fun h => by have := (h.each e hm).refs; simp at c5; omega)]
    have a1 : e.form.length ≤ 40 := by simp at c1; omega
    have a2 : e.alts.length ≤ 6 := by simp at c2; omega
    have a3 : e.senses.length ≤ 10 := by simp at c3; omega
    have a4 : e.links.length ≤ 20 := by simp at c4; omega
    have a5 : e.refs.length ≤ 20 := by simp at c5; omega
    (repeat' (first | refine kA ?_ | refine kB ?_ | ((first | (refine kC (N := 87) rfl (by kernel_rfl) ?_) | refine kD ?_ | refine kE ?_); simp +decide only [go_sem, hlt, hw, he, Ent.enc, c1, c2, c3, c4, c5]) | (apply kG; (simp +decide only [go_sem, hlt, hw, he, Ent.enc, c1, c2, c3, c4, c5]; rfl); all_goals (intro hcnd; first | (exact absurd hcnd (by decide)) | skip)) | ((first | refine kH ?_ ?_ | refine kI ?_ ?_) <;> (intro hcnd; simp +decide only [go_sem, hcnd, hlt, hw, he, Ent.enc, c1, c2, c3, c4, c5]))))
    refine dw_rngI e.alts (fun j => kn 87 [(0, dv (.sl 8 (l.map Ent.enc))), (4, .one (.bx 4 8 0 0)), (11, dv (li l.length)), (12, dv (li k)), (49, dv (li e.alts.length)), (50, dv (li j))] (ml [(4, [e.row])])) (fun j => ∀ a ∈ e.alts.take j, a.length ≤ 40) (by omega) (kM rfl (by simp +decide only [go_sem]) (by simp +decide only [go_sem, Ent.row])) (by simp) ?_ ?_
    · intro j a ha hj ham htj hlt2 hw2 hi2
      cases t3 : decide ((40 : Int) < (a.length : Int))
      · (repeat' (first | refine kA ?_ | refine kB ?_ | ((first | (refine kC (N := 87) rfl (by kernel_rfl) ?_) | refine kD ?_ | refine kE ?_ | refine kF ?_); simp +decide only [go_sem, hlt2, hw2, ha, t3, altC, Ent.row]) | (apply kG; (simp +decide only [go_sem, hlt2, hw2, ha, t3, altC, Ent.row]; rfl); all_goals (intro hcnd; first | (exact absurd hcnd (by decide)) | skip)) | ((first | refine kH ?_ ?_ | refine kI ?_ ?_) <;> (intro hcnd; simp +decide only [go_sem, hcnd, hlt2, hw2, ha, t3, altC, Ent.row]))))
        exact ⟨forall_snoc htj hi2 (by simp at t3; omega), kM rfl (by simp +decide only [go_sem]) (by simp +decide only [go_sem, Ent.row])⟩
      · (repeat' (first | refine kA ?_ | refine kB ?_ | ((first | (refine kC (N := 87) rfl (by kernel_rfl) ?_) | refine kD ?_ | refine kE ?_ | refine kF ?_); simp +decide only [go_sem, hlt2, hw2, ha, t3, altC, Ent.row]) | (apply kG; (simp +decide only [go_sem, hlt2, hw2, ha, t3, altC, Ent.row]; rfl); all_goals (intro hcnd; first | (exact absurd hcnd (by decide)) | skip)) | ((first | refine kH ?_ ?_ | refine kI ?_ ?_) <;> (intro hcnd; simp +decide only [go_sem, hcnd, hlt2, hw2, ha, t3, altC, Ent.row]))))
        rw [fewL_f (fun h => by have := (h.each e hm).alt a ham; simp at t3; omega)]
    intro hlt2 hi2
    rw [List.take_length] at hi2
    (repeat' (first | refine kA ?_ | refine kB ?_ | ((first | (refine kC (N := 87) rfl (by kernel_rfl) ?_) | refine kD ?_ | refine kE ?_); simp +decide only [go_sem, hlt2, Ent.row]) | (apply kG; (simp +decide only [go_sem, hlt2, Ent.row]; rfl); all_goals (intro hcnd; first | (exact absurd hcnd (by decide)) | skip)) | ((first | refine kH ?_ ?_ | refine kI ?_ ?_) <;> (intro hcnd; simp +decide only [go_sem, hcnd, hlt2, Ent.row]))))
    refine dw_rngI e.senses (fun j => kn 87 [(0, dv (.sl 8 (l.map Ent.enc))), (4, .one (.bx 4 8 0 0)), (11, dv (li l.length)), (12, dv (li k)), (63, dv (li e.senses.length)), (64, dv (li j))] (ml [(4, [e.row])])) (fun j => ∀ s ∈ e.senses.take j, s.gloss.size ≤ 100 ∧ s.txt.size ≤ 400) (by omega) (kM rfl (by simp +decide only [go_sem]) (by simp +decide only [go_sem, Ent.row])) (by simp) ?_ ?_
    · intro j s hs hj hsm htj hlt3 hw3 hi3
      cases t3 : decide ((100 : Int) < (s.gloss.size : Int))
      · cases t4 : decide ((400 : Int) < (s.txt.size : Int))
        · (repeat' (first | refine kA ?_ | refine kB ?_ | ((first | (refine kC (N := 87) rfl (by kernel_rfl) ?_) | refine kD ?_ | refine kE ?_ | refine kF ?_); simp +decide only [go_sem, hlt3, hw3, hs, t3, t4, Ent.row, Sns.enc]) | (apply kG; (simp +decide only [go_sem, hlt3, hw3, hs, t3, t4, Ent.row, Sns.enc]; rfl); all_goals (intro hcnd; first | (exact absurd hcnd (by decide)) | skip)) | ((first | refine kH ?_ ?_ | refine kI ?_ ?_) <;> (intro hcnd; simp +decide only [go_sem, hcnd, hlt3, hw3, hs, t3, t4, Ent.row, Sns.enc]))))
          exact ⟨forall_snoc htj hi3 (by simp at t3 t4; omega), kM rfl (by simp +decide only [go_sem]) (by simp +decide only [go_sem, Ent.row])⟩
        · (repeat' (first | refine kA ?_ | refine kB ?_ | ((first | (refine kC (N := 87) rfl (by kernel_rfl) ?_) | refine kD ?_ | refine kE ?_ | refine kF ?_); simp +decide only [go_sem, hlt3, hw3, hs, t3, t4, Ent.row, Sns.enc]) | (apply kG; (simp +decide only [go_sem, hlt3, hw3, hs, t3, t4, Ent.row, Sns.enc]; rfl); all_goals (intro hcnd; first | (exact absurd hcnd (by decide)) | skip)) | ((first | refine kH ?_ ?_ | refine kI ?_ ?_) <;> (intro hcnd; simp +decide only [go_sem, hcnd, hlt3, hw3, hs, t3, t4, Ent.row, Sns.enc]))))
          rw [fewL_f (fun h => by have := (h.each e hm).strs s hsm; simp at t4; omega)]
      · (repeat' (first | refine kA ?_ | refine kB ?_ | ((first | (refine kC (N := 87) rfl (by kernel_rfl) ?_) | refine kD ?_ | refine kE ?_ | refine kF ?_); simp +decide only [go_sem, hlt3, hw3, hs, t3, Ent.row, Sns.enc]) | (apply kG; (simp +decide only [go_sem, hlt3, hw3, hs, t3, Ent.row, Sns.enc]; rfl); all_goals (intro hcnd; first | (exact absurd hcnd (by decide)) | skip)) | ((first | refine kH ?_ ?_ | refine kI ?_ ?_) <;> (intro hcnd; simp +decide only [go_sem, hcnd, hlt3, hw3, hs, t3, Ent.row, Sns.enc]))))
        rw [fewL_f (fun h => by have := (h.each e hm).strs s hsm; simp at t3; omega)]
    intro hlt3 hi3
    rw [List.take_length] at hi3
    (repeat' (first | refine kA ?_ | refine kB ?_ | ((first | (refine kC (N := 87) rfl (by kernel_rfl) ?_) | refine kD ?_ | refine kE ?_ | refine kF ?_); simp +decide only [go_sem, hlt3, hw]) | (apply kG; (simp +decide only [go_sem, hlt3, hw]; rfl); all_goals (intro hcnd; first | (exact absurd hcnd (by decide)) | skip)) | ((first | refine kH ?_ ?_ | refine kI ?_ ?_) <;> (intro hcnd; simp +decide only [go_sem, hcnd, hlt3, hw]))))
    exact ⟨forall_snoc htk hi ⟨a1, a2, a3, a4, a5, hi2, hi3⟩, kL rfl (by simp +decide only [go_sem]) (by simp [noMem])⟩
  · intro hlt hi
    rw [List.take_length] at hi
    (repeat' (first | refine kA ?_ | refine kB ?_ | ((first | (refine kC (N := 87) rfl (by kernel_rfl) ?_) | refine kD ?_ | refine kE ?_ | refine kF ?_); simp +decide only [go_sem, hlt]) | (apply kG; (simp +decide only [go_sem, hlt]; rfl); all_goals (intro hcnd; first | (exact absurd hcnd (by decide)) | skip)) | ((first | refine kH ?_ ?_ | refine kI ?_ ?_) <;> (intro hcnd; simp +decide only [go_sem, hcnd, hlt]))))
    rw [fewL_t ⟨hl, hi⟩]
end Go.Proofs.YtdmmhemfnnbddaaGreatDoor

/- Lexicons: plain facts for the laws. -/
namespace Go.Proofs.YtdmmhemfnnbddaaGreatDoor
open Go.Dl
open Go.Dl renaming dw_seq → kA, dw_block → kB, dw_reg → kC, dw_skip → kD, dw_exit → kE, dw_ret → kF, dw_cond → kG, guardC_f → kH, guardC_t → kI, dw_drw → kJ, dw_weaken → kK, sub_kn → kL, sub_ml → kM
open Go.Dl.CallC renaming mk → kN, light → kO
open Go.Dl.LeL renaming of_eq → kP
open S (usort)

theorem putE_of {g : List Phon} {l : List Ent} {e : Ent} (h : lexE g (putLx l e) = 0) : putE g l e = (putLx l e, 0) := by rw [putE, if_neg (by simpa using h)]
theorem putE_ok {g : List Phon} {l : List Ent} {e : Ent} (h : (putE g l e).2 = 0) : putE g l e = (putLx l e, 0) ∧ RightL g (putLx l e) := by
  by_cases hn : lexE g (putLx l e) = 0
  · exact ⟨putE_of hn, (lexE_iff _ _).1 hn⟩
  · rw [putE, if_pos hn] at h; exact absurd h hn
theorem putE_bad {g : List Phon} {l : List Ent} {e : Ent} (h : (putE g l e).2 ≠ 0) : (putE g l e).1 = [] := by
  by_cases hn : lexE g (putLx l e) = 0
  · rw [putE_of hn] at h; exact absurd rfl h
  · rw [putE, if_pos hn]
theorem getE_mem {l : List Ent} {id : Int} (h : (getE l id).2 = true) : (getE l id).1 ∈ l ∧ (getE l id).1.id = id := by
  unfold getE at h ⊢
  cases hf : l.find? (fun e => e.id == id) with
  | none => rw [hf] at h; cases h
  | some e => exact ⟨List.mem_of_find?_eq_some hf, by simpa using List.find?_some hf⟩
theorem getE_up {l : List Ent} {e : Ent} (hs : UpE l) (he : e ∈ l) : getE l e.id = (e, true) := by
  have h2 : (getE l e.id).2 = true := by rw [getE_has]; exact (hasId_iff _ _).2 ⟨e, he, rfl⟩
  obtain ⟨h3, h4⟩ := getE_mem h2
  have h5 := upE_inj hs h3 he h4
  rw [← h2, ← h5, h5]
  exact Prod.ext h5 rfl
theorem dropE_is {l : List Ent} {id : Int} (h : (dropE l id).2 = 0) : dropE l id = (othersE l id, 0) ∧ hasId l id = true ∧ ∀ e ∈ othersE l id, usesId id e = false := by
  unfold dropE at h ⊢
  by_cases h1 : hasId l id = false
  · rw [if_pos h1] at h; exact absurd h (by decide)
  rw [if_neg h1] at h ⊢
  by_cases h2 : (othersE l id).any (usesId id) = true
  · rw [if_pos h2] at h; exact absurd h (by decide)
  rw [if_neg h2]
  exact ⟨rfl, by simpa using h1, by simpa using h2⟩
theorem others_has (l : List Ent) (id : Int) : hasId (othersE l id) id = false := by
  cases h : hasId (othersE l id) id
  · rfl
  · obtain ⟨e, he, hid⟩ := (hasId_iff _ _).1 h
    have := (List.mem_filter.1 he).2
    simp [hid] at this
theorem others_others (l : List Ent) (id : Int) : othersE (othersE l id) id = othersE l id := by
  simp [othersE, List.filter_filter]
theorem check_id {g : List Phon} {e : Ent} (h : checkE g e = 0) : e.id ≠ 0 := by
  intro h0
  have : ident e.id = true := by
    unfold checkE at h
    cases hi : ident e.id
    · rw [hi] at h; simp at h
    · rfl
  rw [h0] at this
  exact absurd this (by decide)
theorem drop_put {g : List Phon} {l : List Ent} {e : Ent} (hl : RightL g l) (hr : RightL g (putLx l e)) (hn : hasId l e.id = false) : dropE (putLx l e) e.id = (l, 0) := by
  have hf : foundE l e.id = false := by rw [foundE_eq l e.id hl.up]; exact hn
  have hnew := put_new (e := e) hl.up hf
  have hhas : hasId (putLx l e) e.id = true := (hasId_iff _ _).2 ⟨e, put_get, rfl⟩
  have h0 : e.id ≠ 0 := check_id (hr.each e put_get)
  rw [dropE_ok hhas, hnew]
  intro x hx hid
  refine right_unused hl hn h0 x ?_
  rw [← hnew]
  exact List.mem_filter.2 ⟨hx, by simpa using hid⟩
theorem usort_ids {l : List Ent} (hs : UpE l) (p : Ent → Bool) : usort (idsOf l p) = idsOf l p := usort_up (ids_up hs p)
theorem hom_eq {l : List Ent} (hs : UpE l) {k : Nat} {e : Ent} (hk : l[k]? = some e) : homE l e.id = if l.countP (fun x => decide (x.form = e.form)) = 1 then 0 else (((l.take k).countP (fun x => decide (x.form = e.form)) : Nat) : Int) + 1 := by
  have he := List.mem_of_getElem? hk
  have hp : (decide (e.form = e.form)) = true := by simp
  have hpos : 0 < l.countP (fun x => decide (x.form = e.form)) := List.countP_pos_iff.2 ⟨e, he, hp⟩
  rw [homE, getE_up hs he]
  simp only [if_neg (show ¬ true = false by decide)]
  rw [usort_ids hs, ids_len]
  by_cases h1 : l.countP (fun x => decide (x.form = e.form)) = 1
  · rw [if_pos (by omega), if_pos h1]
  · rw [if_neg (by omega), if_neg h1, ids_idx hs hk hp]
theorem form_in {l : List Ent} {x e : Ent} (hx : x ∈ l) (h : x.form = e.form) : (byForm l e.form).any (fun n => n == x.id) = true := by
  refine List.any_eq_true.2 ⟨x.id, ?_, by simp⟩
  rw [byForm, (usort_spec _).2]
  exact mem_ids.2 ⟨x, hx, by simp [hasA, formsL, h], rfl⟩
theorem countP_snoc {α : Type} (p : α → Bool) (l : List α) (x : α) : (l ++ [x]).countP p = l.countP p + if p x = true then 1 else 0 := by
  rw [List.countP_append, List.countP_singleton]
end Go.Proofs.YtdmmhemfnnbddaaGreatDoor

/- Lexicons: right ones; the other entries. -/
namespace Go.Proofs.YtdmmhemfnnbddaaGreatDoor
open Go.Dl
open Go.Dl renaming dw_seq → kA, dw_block → kB, dw_reg → kC, dw_skip → kD, dw_exit → kE, dw_ret → kF, dw_cond → kG, guardC_f → kH, guardC_t → kI, dw_drw → kJ, dw_weaken → kK, sub_kn → kL, sub_ml → kM
open Go.Dl.CallC renaming mk → kN, light → kO
open Go.Dl.LeL renaming of_eq → kP
open S (usort)
attribute [local irreducible] DW DCalls ECalls wk IW

def sndG : List Phon := [⟨⟨#[97]⟩, 0⟩, ⟨⟨#[98]⟩, 0⟩, ⟨⟨#[109]⟩, 0⟩]

set_option maxRecDepth 10000 in
theorem sounds_D : DCalls Tryz.prog 39 [] (.agg (invRow sndG)) := by
  refine dcalls (N := 6) (rs := [.cell 0 24]) (by kernel_rfl) Tryz.func39 rfl rfl rfl (by simp) ?_
  (repeat' (first | refine kA ?_ | refine kB ?_ | ((first | (refine kC (N := 6) rfl (by kernel_rfl) ?_) | refine kD ?_ | refine kE ?_); simp +decide only [go_sem]) | (apply kG; (simp +decide only [go_sem]; rfl); all_goals (intro hcnd; first | (exact absurd hcnd (by decide)) | skip))))
  refine dw_exc 0 (by simp +decide only [go_sem]; rfl) ?_
  refine kF ?_; simp +decide only [go_sem]
  simp [invRow, sndG, Phon.enc]

structure Sound (g : List Phon) (l : List Ent) : Prop where
  len : g.length ≤ 60
  names : ∀ p ∈ g, p.name.size ≤ 100
  ok : checkI g = 0
  few : FewL l
noncomputable def soundB (g : List Phon) (l : List Ent) : Bool := @decide (Sound g l) (Classical.propDecidable _)
theorem soundB_t {g : List Phon} {l : List Ent} (h : Sound g l) : soundB g l = true := by simp [soundB, h]
theorem soundB_f {g : List Phon} {l : List Ent} (h : ¬ Sound g l) : soundB g l = false := by simp [soundB, h]
theorem soundB_is {g : List Phon} {l : List Ent} (h : soundB g l = true) : Sound g l := by simpa [soundB] using h
theorem FewL.mid {l : List Ent} (h : FewL l) : ∀ e ∈ l, MidE e := fun e he => (h.each e he).mid
abbrev lexRow (g : List Phon) (l : List Ent) : List T := [.c (.sl 2 (g.map Phon.enc)), .c (.sl 8 (l.map Ent.enc))]

set_option maxRecDepth 10000 in
set_option maxHeartbeats 4000000 in
theorem sound_D (g : List Phon) (l : List Ent) : DCalls Tryz.prog 12 [.agg (lexRow g l)] (dv (lb (soundB g l))) := by
  have hmax : maxLen = 9223372036854775807 := rfl
  have hF := fewL_D l
  refine dcalls (N := 41) (rs := [.tmp 2]) (by kernel_rfl) Tryz.func12 rfl rfl rfl (by simp) ?_
  (repeat' (first | refine kA ?_ | refine kB ?_ | ((first | (refine kC (N := 41) rfl (by kernel_rfl) ?_) | refine kD ?_ | refine kE ?_); simp +decide only [go_sem]) | (apply kG; (simp +decide only [go_sem]; rfl); all_goals (intro hcnd; first | (exact absurd hcnd (by decide)) | skip)) | ((first | refine kH ?_ ?_ | refine kI ?_ ?_) <;> (intro hcnd; simp +decide only [go_sem, hcnd]))))
  refine dw_loop_fam (fun k : Nat => kn 41 [(1, .one (.bx 1 2 0 0)), (3, dv (li k))] (ml [(1, [lexRow g l])])) (fun k => k ≤ 61 ∧ ∀ p ∈ g.take k, p.name.size ≤ 100) (fun k => 61 - k) 0 (kM rfl (by simp +decide only [go_sem]) (by simp +decide only [go_sem])) ⟨by omega, by simp⟩ ?_
  rintro k ⟨hk, h1⟩
  cases t1 : decide ((k : Int) < (g.length : Int))
  · have hgk : g.length ≤ k := by simpa using t1
    rw [List.take_of_length_le hgk] at h1
    cases t4 : decide ((g.length : Int) ≤ 60)
    · (repeat' (first | refine kA ?_ | refine kB ?_ | ((first | (refine kC (N := 41) rfl (by kernel_rfl) ?_) | refine kD ?_ | refine kE ?_ | refine kF ?_); simp +decide only [go_sem, t1, t4]) | (apply kG; (simp +decide only [go_sem, t1, t4]; rfl); all_goals (intro hcnd; first | (exact absurd hcnd (by decide)) | skip)) | ((first | refine kH ?_ ?_ | refine kI ?_ ?_) <;> (intro hcnd; simp +decide only [go_sem, hcnd, t1, t4]))))
      rw [soundB_f (fun h => by have := h.len; simp at t4; omega)]
    have hl : g.length ≤ 60 := by simp at t4; omega
    have hC := rCheckI_D g (fun p hp => by have := h1 p hp; omega)
    simp only [invRow] at hC
    cases t2 : checkI g == 0
    · (repeat' (first | refine kA ?_ | refine kB ?_ | ((first | (refine kC (N := 41) rfl (by kernel_rfl) ?_) | refine kD ?_ | refine kE ?_ | (refine kN (hC) (kP rfl) ?_) | (refine kO (hC) (kP rfl) ?_) | refine kF ?_); simp +decide only [go_sem, t1, t4, t2]) | (apply kG; (simp +decide only [go_sem, t1, t4, t2]; rfl); all_goals (intro hcnd; first | (exact absurd hcnd (by decide)) | skip)) | ((first | refine kH ?_ ?_ | refine kI ?_ ?_) <;> (intro hcnd; simp +decide only [go_sem, hcnd, t1, t4, t2]))))
      rw [soundB_f (fun h => by have := h.ok; simp at t2; omega)]
    cases t3 : fewL l
    · rw [t3] at hF
      (repeat' (first | refine kA ?_ | refine kB ?_ | ((first | (refine kC (N := 41) rfl (by kernel_rfl) ?_) | refine kD ?_ | refine kE ?_ | (refine kN (hC) (kP rfl) ?_) | (refine kO (hC) (kP rfl) ?_) | (refine kN (hF) (kP rfl) ?_) | (refine kO (hF) (kP rfl) ?_) | refine kF ?_); simp +decide only [go_sem, t1, t4, t2]) | (apply kG; (simp +decide only [go_sem, t1, t4, t2]; rfl); all_goals (intro hcnd; first | (exact absurd hcnd (by decide)) | skip)) | ((first | refine kH ?_ ?_ | refine kI ?_ ?_) <;> (intro hcnd; simp +decide only [go_sem, hcnd, t1, t4, t2]))))
      rw [soundB_f (fun h => by rw [fewL_t h.few] at t3; cases t3)]
    · rw [t3] at hF
      (repeat' (first | refine kA ?_ | refine kB ?_ | ((first | (refine kC (N := 41) rfl (by kernel_rfl) ?_) | refine kD ?_ | refine kE ?_ | (refine kN (hC) (kP rfl) ?_) | (refine kO (hC) (kP rfl) ?_) | (refine kN (hF) (kP rfl) ?_) | (refine kO (hF) (kP rfl) ?_) | refine kF ?_); simp +decide only [go_sem, t1, t4, t2]) | (apply kG; (simp +decide only [go_sem, t1, t4, t2]; rfl); all_goals (intro hcnd; first | (exact absurd hcnd (by decide)) | skip)) | ((first | refine kH ?_ ?_ | refine kI ?_ ?_) <;> (intro hcnd; simp +decide only [go_sem, hcnd, t1, t4, t2]))))
      rw [soundB_t ⟨hl, h1, by simpa using t2, fewL_iff.1 t3⟩]
  have hkl : k < g.length := by simpa using t1
  cases t2 : decide ((k : Int) < 61)
  · have t4 : decide ((g.length : Int) ≤ 60) = false := by simp at t2; simp; omega
    (repeat' (first | refine kA ?_ | refine kB ?_ | ((first | (refine kC (N := 41) rfl (by kernel_rfl) ?_) | refine kD ?_ | refine kE ?_ | refine kF ?_); simp +decide only [go_sem, t1, t2, t4]) | (apply kG; (simp +decide only [go_sem, t1, t2, t4]; rfl); all_goals (intro hcnd; first | (exact absurd hcnd (by decide)) | skip)) | ((first | refine kH ?_ ?_ | refine kI ?_ ?_) <;> (intro hcnd; simp +decide only [go_sem, hcnd, t1, t2, t4]))))
    rw [soundB_f (fun h => by have := h.len; simp at t4; omega)]
  have hk6 : k < 61 := by simp at t2; omega
  obtain ⟨p, hp⟩ : ∃ p, g[k]? = some p := ⟨_, List.getElem?_eq_getElem hkl⟩
  have hw := wrap_succ k (by omega)
  cases t3 : decide ((100 : Int) < (p.name.size : Int))
  · (repeat' (first | refine kA ?_ | refine kB ?_ | ((first | (refine kC (N := 41) rfl (by kernel_rfl) ?_) | refine kD ?_ | refine kE ?_); simp +decide only [go_sem, t1, t2, t3, hp, hw, Phon.enc]) | (apply kG; (simp +decide only [go_sem, t1, t2, t3, hp, hw, Phon.enc]; rfl); all_goals (intro hcnd; first | (exact absurd hcnd (by decide)) | skip)) | ((first | refine kH ?_ ?_ | refine kI ?_ ?_) <;> (intro hcnd; simp +decide only [go_sem, hcnd, t1, t2, t3, hp, hw, Phon.enc]))))
    exact ⟨k + 1, ⟨by omega, fun q hq => by
      rw [take_snoc hp] at hq
      rcases List.mem_append.1 hq with hq | hq
      · exact h1 q hq
      · rw [List.mem_singleton.1 hq]; simp at t3; omega⟩, by omega, kM rfl (by simp +decide only [go_sem]) (by simp +decide only [go_sem])⟩
  · (repeat' (first | refine kA ?_ | refine kB ?_ | ((first | (refine kC (N := 41) rfl (by kernel_rfl) ?_) | refine kD ?_ | refine kE ?_ | refine kF ?_); simp +decide only [go_sem, t1, t2, t3, hp, hw, Phon.enc]) | (apply kG; (simp +decide only [go_sem, t1, t2, t3, hp, hw, Phon.enc]; rfl); all_goals (intro hcnd; first | (exact absurd hcnd (by decide)) | skip)) | ((first | refine kH ?_ ?_ | refine kI ?_ ?_) <;> (intro hcnd; simp +decide only [go_sem, hcnd, t1, t2, t3, hp, hw, Phon.enc]))))
    rw [soundB_f (fun h => by have := h.names p (List.mem_of_getElem? hp); simp at t3; omega)]

structure RightX (g : List Phon) (l : List Ent) : Prop extends Sound g l where
  right : RightL g l
noncomputable def rightB (g : List Phon) (l : List Ent) : Bool := @decide (RightX g l) (Classical.propDecidable _)
theorem rightB_t {g : List Phon} {l : List Ent} (h : RightX g l) : rightB g l = true := by simp [rightB, h]
theorem rightB_f {g : List Phon} {l : List Ent} (h : ¬ RightX g l) : rightB g l = false := by simp [rightB, h]
theorem rightB_is {g : List Phon} {l : List Ent} (h : rightB g l = true) : RightX g l := by simpa [rightB] using h

set_option maxRecDepth 10000 in
theorem right_D (g : List Phon) (l : List Ent) : DCalls Tryz.prog 29 [.agg (lexRow g l)] (dv (lb (rightB g l))) := by
  have hS := sound_D g l
  refine dcalls (N := 13) (rs := [.tmp 2]) (by kernel_rfl) Tryz.func29 rfl rfl rfl (by simp) ?_
  cases t1 : soundB g l
  · rw [t1] at hS
    (repeat' (first | refine kA ?_ | refine kB ?_ | ((first | (refine kC (N := 13) rfl (by kernel_rfl) ?_) | refine kD ?_ | refine kE ?_ | (refine kN (hS) (kP rfl) ?_) | (refine kO (hS) (kP rfl) ?_) | refine kF ?_); simp +decide only [go_sem]) | (apply kG; (simp +decide only [go_sem]; rfl); all_goals (intro hcnd; first | (exact absurd hcnd (by decide)) | skip)) | ((first | refine kH ?_ ?_ | refine kI ?_ ?_) <;> (intro hcnd; simp +decide only [go_sem, hcnd]))))
    rw [rightB_f (fun h => by rw [soundB_t h.toSound] at t1; cases t1)]
  have hs := soundB_is t1
  have hC := rCheckL_D g l hs.few.mid
  simp only [invRow] at hC
  rw [t1] at hS
  cases t2 : lexE g l == 0
  · (repeat' (first | refine kA ?_ | refine kB ?_ | ((first | (refine kC (N := 13) rfl (by kernel_rfl) ?_) | refine kD ?_ | refine kE ?_ | (refine kN (hS) (kP rfl) ?_) | (refine kO (hS) (kP rfl) ?_) | (refine kN (hC) (kP rfl) ?_) | (refine kO (hC) (kP rfl) ?_) | refine kF ?_); simp +decide only [go_sem, t2]) | (apply kG; (simp +decide only [go_sem, t2]; rfl); all_goals (intro hcnd; first | (exact absurd hcnd (by decide)) | skip)) | ((first | refine kH ?_ ?_ | refine kI ?_ ?_) <;> (intro hcnd; simp +decide only [go_sem, hcnd, t2]))))
    rw [rightB_f (fun h => by rw [(lexE_iff g l).2 h.right] at t2; cases t2)]
  · (repeat' (first | refine kA ?_ | refine kB ?_ | ((first | (refine kC (N := 13) rfl (by kernel_rfl) ?_) | refine kD ?_ | refine kE ?_ | (refine kN (hS) (kP rfl) ?_) | (refine kO (hS) (kP rfl) ?_) | (refine kN (hC) (kP rfl) ?_) | (refine kO (hC) (kP rfl) ?_) | refine kF ?_); simp +decide only [go_sem, t2]) | (apply kG; (simp +decide only [go_sem, t2]; rfl); all_goals (intro hcnd; first | (exact absurd hcnd (by decide)) | skip)) | ((first | refine kH ?_ ?_ | refine kI ?_ ?_) <;> (intro hcnd; simp +decide only [go_sem, hcnd, t2]))))
    rw [rightB_t ⟨hs, (lexE_iff g l).1 (by simpa using t2)⟩]

set_option maxRecDepth 10000 in
set_option maxHeartbeats 4000000 in
theorem rHasN_D (xs : List Int) (n : Int) (hx : xs.length ≤ maxLen) : DCalls Tryz.prog 37 [dv (.sl 1 (ints xs)), dv (li n)] (dv (lb (xs.any fun x => x == n))) := by
  refine dcalls (N := 18) (rs := [.tmp 4]) (by kernel_rfl) Tryz.func37 rfl rfl rfl (by simp) ?_
  (repeat' (first | refine kA ?_ | refine kB ?_ | ((first | (refine kC (N := 18) rfl (by kernel_rfl) ?_) | refine kD ?_ | refine kE ?_); simp +decide only [go_sem]) | (apply kG; (simp +decide only [go_sem]; rfl); all_goals (intro hcnd; first | (exact absurd hcnd (by decide)) | skip))))
  refine dw_rngI xs (fun k => kn 18 [(0, dv (.sl 1 (ints xs))), (1, dv (li n)), (7, dv (li xs.length)), (8, dv (li k))] noMem) (fun k => ∀ x ∈ xs.take k, (x == n) = false) hx (kL rfl (by simp +decide only [go_sem]) (by simp [noMem])) (by simp) ?_ ?_
  · intro k x hx hk hm htk hlt hw hi
    have hx' := ints_at hx
    (repeat' (first | refine kA ?_ | refine kB ?_ | ((first | (refine kC (N := 18) rfl (by kernel_rfl) ?_) | refine kD ?_ | refine kE ?_ | refine kF ?_); simp +decide only [go_sem, hlt, hw, hx']) | (apply kG; (simp +decide only [go_sem, hlt, hw, hx']; rfl); all_goals (intro hcnd; first | (exact absurd hcnd (by decide)) | skip))))
    · rw [any_at hx hcnd]
    · exact ⟨forall_snoc htk hi hcnd, kL rfl (by simp +decide only [go_sem]) (by simp [noMem])⟩
  · intro hlt hi
    rw [any_take_no hi]
    (repeat' (first | refine kA ?_ | refine kB ?_ | ((first | (refine kC (N := 18) rfl (by kernel_rfl) ?_) | refine kD ?_ | refine kE ?_ | refine kF ?_); simp +decide only [go_sem, hlt]) | (apply kG; (simp +decide only [go_sem, hlt]; rfl); all_goals (intro hcnd; first | (exact absurd hcnd (by decide)) | skip))))
end Go.Proofs.YtdmmhemfnnbddaaGreatDoor

/- Lexicons: the other entries of two lists. -/
namespace Go.Proofs.YtdmmhemfnnbddaaGreatDoor
open Go.Dl
open Go.Dl renaming dw_seq → kA, dw_block → kB, dw_reg → kC, dw_skip → kD, dw_exit → kE, dw_ret → kF, dw_cond → kG, guardC_f → kH, guardC_t → kI, dw_drw → kJ, dw_weaken → kK, sub_kn → kL, sub_ml → kM
open Go.Dl.CallC renaming mk → kN, light → kO
open Go.Dl.LeL renaming of_eq → kP
attribute [local irreducible] DW DCalls ECalls wk IW

set_option maxRecDepth 10000 in
set_option maxHeartbeats 8000000 in
theorem others_D (a b : List Ent) (id : Int) (ha : a.length ≤ 99999) (hb : b.length ≤ 99999) : DCalls Tryz.prog 36 [dv (.sl 8 (a.map Ent.enc)), dv (.sl 8 (b.map Ent.enc)), dv (li id)] (dv (lb (decide (othersE a id = othersE b id)))) := by
  have hmax : maxLen = 9223372036854775807 := rfl
  have hS := same25_D (othersE a id) (othersE b id) (by have := othersE_le a id; omega)
  refine dcalls (N := 54) (rs := [.tmp 6]) (by kernel_rfl) Tryz.func36 rfl rfl rfl (by simp) ?_
  (repeat' (first | refine kA ?_ | refine kB ?_ | ((first | (refine kC (N := 54) rfl (by kernel_rfl) ?_) | refine kD ?_ | refine kE ?_); simp +decide only [go_sem]) | (apply kG; (simp +decide only [go_sem]; rfl); all_goals (intro hcnd; first | (exact absurd hcnd (by decide)) | skip))))
  refine dw_own 7 7 8 (by simp +decide only [go_sem]) ?_
  refine dw_after (fun _ : Unit => kn 54 [(1, dv (.sl 8 (b.map Ent.enc))), (2, dv (li id)), (7, .one (.own 7 8 ((othersE a id).map Ent.enc))), (8, .one (.c (.lit (.slice none 0 0))))] noMem) (fun _ => True) ?_ ?_
  · refine dw_rng0 a (fun k => kn 54 [(0, dv (.sl 8 (a.map Ent.enc))), (1, dv (.sl 8 (b.map Ent.enc))), (2, dv (li id)), (7, .one (.own 7 8 ((othersE (a.take k) id).map Ent.enc))), (8, .one (.c (.lit (.slice none 0 0)))), (12, dv (li a.length)), (13, dv (li k))] noMem) (by omega) (kL rfl (by simp +decide only [go_sem, List.take_zero, othersE, List.filter_nil, List.map_nil]) (by simp [noMem])) ?_ ?_
    · intro k x hx hk hm htk hlt hw
      have hle := othersE_le (a.take k) id
      rw [List.length_take] at hle
      have r1 : (((othersE (a.take k) id).length + 1) * 144 ≤ 140737488355328) = True := eq_true (by omega)
      have hst := others_snoc (a.take k) id x
      rw [← htk] at hst
      cases t1 : x.id != id
      rotate_left
      · rw [if_neg (by simpa using t1)] at hst
        (repeat' (first | refine kA ?_ | refine kB ?_ | ((first | (refine kC (N := 54) rfl (by kernel_rfl) ?_) | refine kD ?_ | refine kE ?_); simp +decide only [go_sem, hlt, hw, hx, t1, r1, Ent.enc]) | (apply kG; (simp +decide only [go_sem, hlt, hw, hx, t1, r1, Ent.enc]; rfl); all_goals (intro hcnd; first | (exact absurd hcnd (by decide)) | skip))))
        exact kL rfl (by simp +decide only [go_sem, hst, List.map_append, List.map_cons, List.map_nil, Ent.enc]) (by simp [noMem])
      · rw [if_pos (by simpa using t1), List.append_nil] at hst
        (repeat' (first | refine kA ?_ | refine kB ?_ | ((first | (refine kC (N := 54) rfl (by kernel_rfl) ?_) | refine kD ?_ | refine kE ?_); simp +decide only [go_sem, hlt, hw, hx, t1, r1, Ent.enc]) | (apply kG; (simp +decide only [go_sem, hlt, hw, hx, t1, r1, Ent.enc]; rfl); all_goals (intro hcnd; first | (exact absurd hcnd (by decide)) | skip))))
        exact kL rfl (by simp +decide only [go_sem, hst]) (by simp [noMem])
    · intro hlt
      rw [List.take_length]
      (repeat' (first | refine kA ?_ | refine kB ?_ | ((first | (refine kC (N := 54) rfl (by kernel_rfl) ?_) | refine kD ?_ | refine kE ?_); simp +decide only [go_sem, hlt]) | (apply kG; (simp +decide only [go_sem, hlt]; rfl); all_goals (intro hcnd; first | (exact absurd hcnd (by decide)) | skip))))
      exact ⟨(), kL rfl (by simp +decide only [go_sem]) (by simp [noMem])⟩
  rintro _ _
  refine dw_own 8 8 8 (by simp +decide only [go_sem]) ?_
  (repeat' (first | refine kA ?_ | refine kB ?_ | ((first | (refine kC (N := 54) rfl (by kernel_rfl) ?_) | refine kD ?_ | refine kE ?_); simp +decide only [go_sem]) | (apply kG; (simp +decide only [go_sem]; rfl); all_goals (intro hcnd; first | (exact absurd hcnd (by decide)) | skip))))
  refine dw_after (fun _ : Unit => kn 54 [(7, .one (.own 7 8 ((othersE a id).map Ent.enc))), (8, .one (.own 8 8 ((othersE b id).map Ent.enc)))] noMem) (fun _ => True) ?_ ?_
  · refine dw_rng0 b (fun k => kn 54 [(1, dv (.sl 8 (b.map Ent.enc))), (2, dv (li id)), (7, .one (.own 7 8 ((othersE a id).map Ent.enc))), (8, .one (.own 8 8 ((othersE (b.take k) id).map Ent.enc))), (32, dv (li b.length)), (33, dv (li k))] noMem) (by omega) (kL rfl (by simp +decide only [go_sem, List.take_zero, othersE, List.filter_nil, List.map_nil]) (by simp [noMem])) ?_ ?_
    · intro k x hx hk hm htk hlt hw
      have hle := othersE_le (b.take k) id
      rw [List.length_take] at hle
      have r1 : (((othersE (b.take k) id).length + 1) * 144 ≤ 140737488355328) = True := eq_true (by omega)
      have hst := others_snoc (b.take k) id x
      rw [← htk] at hst
      cases t1 : x.id != id
      rotate_left
      · rw [if_neg (by simpa using t1)] at hst
        (repeat' (first | refine kA ?_ | refine kB ?_ | ((first | (refine kC (N := 54) rfl (by kernel_rfl) ?_) | refine kD ?_ | refine kE ?_); simp +decide only [go_sem, hlt, hw, hx, t1, r1, Ent.enc]) | (apply kG; (simp +decide only [go_sem, hlt, hw, hx, t1, r1, Ent.enc]; rfl); all_goals (intro hcnd; first | (exact absurd hcnd (by decide)) | skip))))
        exact kL rfl (by simp +decide only [go_sem, hst, List.map_append, List.map_cons, List.map_nil, Ent.enc]) (by simp [noMem])
      · rw [if_pos (by simpa using t1), List.append_nil] at hst
        (repeat' (first | refine kA ?_ | refine kB ?_ | ((first | (refine kC (N := 54) rfl (by kernel_rfl) ?_) | refine kD ?_ | refine kE ?_); simp +decide only [go_sem, hlt, hw, hx, t1, r1, Ent.enc]) | (apply kG; (simp +decide only [go_sem, hlt, hw, hx, t1, r1, Ent.enc]; rfl); all_goals (intro hcnd; first | (exact absurd hcnd (by decide)) | skip))))
        exact kL rfl (by simp +decide only [go_sem, hst]) (by simp [noMem])
    · intro hlt
      rw [List.take_length]
      (repeat' (first | refine kA ?_ | refine kB ?_ | ((first | (refine kC (N := 54) rfl (by kernel_rfl) ?_) | refine kD ?_ | refine kE ?_); simp +decide only [go_sem, hlt]) | (apply kG; (simp +decide only [go_sem, hlt]; rfl); all_goals (intro hcnd; first | (exact absurd hcnd (by decide)) | skip))))
      exact ⟨(), kL rfl (by simp +decide only [go_sem]) (by simp [noMem])⟩
  rintro _ _
  refine dw_slot 7 (dv (.sl 8 ((othersE a id).map Ent.enc))) (DLe.own_ _ _ _) ?_
  refine dw_slot 8 (dv (.sl 8 ((othersE b id).map Ent.enc))) (DLe.own_ _ _ _) ?_
  (repeat' (first | refine kA ?_ | refine kB ?_ | ((first | (refine kC (N := 54) rfl (by kernel_rfl) ?_) | refine kD ?_ | refine kE ?_ | (refine kN (hS) (kP rfl) ?_) | (refine kO (hS) (kP rfl) ?_) | refine kF ?_); simp +decide only [go_sem]) | (apply kG; (simp +decide only [go_sem]; rfl); all_goals (intro hcnd; first | (exact absurd hcnd (by decide)) | skip))))
end Go.Proofs.YtdmmhemfnnbddaaGreatDoor

namespace Go.Proofs.YtdmmhemfnnbddaaGreatDoor
abbrev kpm20 : List (Nat × Go.Dl.Mode) := [(0, .light), (1, .light), (2, .light), (3, .light), (4, .light), (5, .step), (6, .light), (7, .light), (8, .light), (9, .light), (10, .light)]
end Go.Proofs.YtdmmhemfnnbddaaGreatDoor
/- Lexicons: the chapter's examples. -/
namespace Go.Proofs.YtdmmhemfnnbddaaGreatDoor
open Go.Dl
open Go.Dl renaming dw_seq → kA, dw_block → kB, dw_reg → kC, dw_skip → kD, dw_exit → kE, dw_ret → kF, dw_cond → kG, guardC_f → kH, guardC_t → kI, dw_drw → kJ, dw_weaken → kK, sub_kn → kL, sub_ml → kM
open Go.Dl.CallC renaming mk → kN, light → kO
open Go.Dl.LeL renaming of_eq → kP
open S (usort)
attribute [local irreducible] DW DCalls ECalls wk IW

def dogG : ByteArray := ⟨#[100, 111, 103]⟩
def exA : Ent := ⟨2, [3, 1], 1, [], 0, [⟨⟨#[100, 111, 103]⟩, ⟨#[]⟩⟩], [], []⟩
def exB : Ent := ⟨4, [3, 1], 2, [], 2, [], [], []⟩
theorem ex_d1 : dropE [exA, exB] 2 = ([], 18) := by decide +kernel
theorem ex_d2 : dropE [exA, exB] 4 = ([exA], 0) := by decide +kernel
theorem ex_p : putE sndG [exA] exB = ([exA, exB], 0) := by decide +kernel
theorem ex_c : lexE sndG [exA, exB] = 0 := by decide +kernel
theorem ex_up : UpE [exA, exB] := by simp [UpE, exA, exB]
theorem ex_h1 : homE [exA, exB] 2 = 1 := (hom_eq (l := [exA, exB]) (k := 0) (e := exA) ex_up rfl).trans (by decide)
theorem ex_h2 : homE [exA, exB] 4 = 2 := (hom_eq (l := [exA, exB]) (k := 1) (e := exB) ex_up rfl).trans (by decide)
theorem ex_h3 : homE [exA] 2 = 0 := (hom_eq (l := [exA]) (k := 0) (e := exA) (by simp [UpE]) rfl).trans (by decide)
theorem ex_f : byForm [exA, exB] [3, 1] = [2, 4] := by
  rw [byForm, usort_ids ex_up]; decide
theorem ex_g : byGloss [exA, exB] dogG = [2] := by
  rw [byGloss, usort_ids ex_up]; decide +kernel
theorem ex_k : byClass [exA, exB] 2 = [4] := by
  rw [byClass, usort_ids ex_up]; decide

set_option maxRecDepth 20000 in
set_option maxHeartbeats 16000000 in
theorem awake_D : DCalls Tryz.prog 13 [] (dv (lb true)) := by
  have hup := ex_up
  have h0 := sounds_D
  have d1 := drop_D [exA, exB] 2 hup (by decide) (by decide)
  have d2 := drop_D [exA, exB] 4 hup (by decide) (by decide)
  have p1 := put_D sndG [exA] exB (by decide) (by decide)
  have c1 := checkL_D sndG [exA, exB] (by decide) (by decide)
  have a1 := hom_D [exA, exB] 2 (by decide) (by decide)
  have a2 := hom_D [exA, exB] 4 (by decide) (by decide)
  have a3 := hom_D [exA] 2 (by decide) (by decide)
  have s1 := sameL_D [exA, exB] [exA, exB] (by decide)
  have mf : ∀ e ∈ [exA, exB], MidF e := fun e he => by
    rcases List.mem_cons.1 he with rfl | he
    · exact ⟨by decide, by decide⟩
    · rw [List.mem_singleton.1 he]; exact ⟨by decide, by decide⟩
  have f1 := byForm_D [exA, exB] [3, 1] (by decide) mf
  have f2 := byGloss_D [exA, exB] dogG (by decide) (by decide)
  have f3 := byClass_D [exA, exB] 2 (by decide)
  have q1 := sameI_D [2, 4] [2, 4] (by decide)
  have q2 := sameI_D [2] [2] (by decide)
  have q3 := sameI_D [4] [4] (by decide)
  rw [ex_d1] at d1
  rw [ex_d2] at d2
  rw [ex_p] at p1
  rw [ex_c] at c1
  rw [ex_h1] at a1
  rw [ex_h2] at a2
  rw [ex_h3] at a3
  rw [ex_f] at f1
  rw [ex_g] at f2
  rw [ex_k] at f3
  rw [decide_eq_true rfl] at s1 q1 q2 q3
  simp only [List.map_cons, List.map_nil, Ent.enc, Ent.row, exA, exB, dogG, Sns.enc, invRow, sndG, Phon.enc] at h0 d1 d2 p1 c1 a1 a2 a3 s1 f1 f2 f3 q1 q2 q3
  have hone : Int.toNat 1 = 1 := rfl
  refine dcalls (N := 94) (rs := [.tmp 0]) (by kernel_rfl) Tryz.func13 rfl rfl rfl (by simp) ?_
  (repeat' (first | refine kA ?_ | refine kB ?_ | ((first | (refine kC (N := 94) rfl (by kernel_rfl) ?_) | refine kD ?_ | refine kE ?_ | (refine kN (d1) (kP rfl) ?_) | (refine kO (d1) (kP rfl) ?_) | (refine kN (d2) (kP rfl) ?_) | (refine kO (d2) (kP rfl) ?_)); simp +decide only [go_sem]) | (apply kG; (simp +decide only [go_sem]; rfl); all_goals (intro hcnd; first | (exact absurd hcnd (by decide)) | skip)) | ((first | refine kH ?_ ?_ | refine kI ?_ ?_) <;> (intro hcnd; simp +decide only [go_sem, hcnd]))))
  refine dw_afterN (fun _ : Unit => kn 94 [(1, dv (.sl 8 ([exA, exB].map Ent.enc))), (3, dv (li 18)), (4, dv (.sl 8 ([exA].map Ent.enc))), (5, dv (li 0)), (6, dv (.sl 8 ([exA, exB].map Ent.enc))), (7, dv (li 0))] noMem) (fun _ => True) ?_ ?_
  · apply dw_treeM (id := 4) (N := 94) [] [[], [], [], [2], [3], [0, 1, 4, 0], [5], [6], [6], [7, 5, 0, 1, 2, 3, 4, 5, 6, 7], [8, 9, 0, 1, 2, 3, 4, 5, 6, 7, 8, 9]] (.bl 1 (.bl 2 (.two 0 (.run [3, 4, 5, 6] (.ex 7 (.ex 8 (.run [9, 10] .leaf)))) 3 (.dia 0 4 (.run [5, 6] (.ex 7 (.ex 8 (.run [9, 10] .leaf)))))))); kernel_rfl; rfl; kernel_rfl; kernel_rfl
    simp +decide only [go_sem, hone, List.getElem?_cons_succ, List.getElem?_cons_zero, Option.map_some]
    (repeat' (first | apply And.intro | (refine kN (h0) (kP rfl) ?_; simp +decide only [go_sem, hone, List.getElem?_cons_succ, List.getElem?_cons_zero, Option.map_some]) | (refine kO (h0) (kP rfl) ?_; simp +decide only [go_sem, hone, List.getElem?_cons_succ, List.getElem?_cons_zero, Option.map_some]) | (refine kN (p1) (kP rfl) ?_; simp +decide only [go_sem, hone, List.getElem?_cons_succ, List.getElem?_cons_zero, Option.map_some]) | (refine kO (p1) (kP rfl) ?_; simp +decide only [go_sem, hone, List.getElem?_cons_succ, List.getElem?_cons_zero, Option.map_some])))
    all_goals exact ⟨(), kL rfl (by simp +decide only [go_sem, List.map_cons, List.map_nil, exA, exB, Ent.enc, Sns.enc]) (by simp [noMem])⟩
  rintro _ _
  (repeat' (first | refine kA ?_ | refine kB ?_ | ((first | (refine kC (N := 94) rfl (by kernel_rfl) ?_) | (apply kJ (id := 4) (N := 94) kpm20; kernel_rfl; rfl; kernel_rfl; (repeat (first | exact Picks.nil | (apply Picks.cons; rfl)))) | refine kD ?_ | refine kE ?_ | (refine kN (h0) (kP rfl) ?_) | (refine kO (h0) (kP rfl) ?_) | (refine kN (c1) (kP rfl) ?_) | (refine kO (c1) (kP rfl) ?_) | (refine kN (a1) (kP rfl) ?_) | (refine kO (a1) (kP rfl) ?_) | (refine kN (a2) (kP rfl) ?_) | (refine kO (a2) (kP rfl) ?_) | (refine kN (a3) (kP rfl) ?_) | (refine kO (a3) (kP rfl) ?_) | (refine kN (s1) (kP rfl) ?_) | (refine kO (s1) (kP rfl) ?_) | (refine kN (f1) (kP rfl) ?_) | (refine kO (f1) (kP rfl) ?_) | (refine kN (f2) (kP rfl) ?_) | (refine kO (f2) (kP rfl) ?_) | (refine kN (f3) (kP rfl) ?_) | (refine kO (f3) (kP rfl) ?_) | (refine kN (q1) (kP rfl) ?_) | (refine kO (q1) (kP rfl) ?_) | (refine kN (q2) (kP rfl) ?_) | (refine kO (q2) (kP rfl) ?_) | (refine kN (q3) (kP rfl) ?_) | (refine kO (q3) (kP rfl) ?_) | refine kF ?_); simp +decide only [go_sem]) | (apply kG; (simp +decide only [go_sem]; rfl); all_goals (intro hcnd; first | (exact absurd hcnd (by decide)) | skip)) | ((first | refine kH ?_ ?_ | refine kI ?_ ?_) <;> (intro hcnd; simp +decide only [go_sem, hcnd]))))
end Go.Proofs.YtdmmhemfnnbddaaGreatDoor
