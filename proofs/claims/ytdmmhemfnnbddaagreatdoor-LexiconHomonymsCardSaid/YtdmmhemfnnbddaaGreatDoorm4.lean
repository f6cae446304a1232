/- The logic of data over the kit's walk, and contracts of the functions that the laws reach, each said by plain data; part 5 of 6. -/
import Derived.Test.YtdmmhemfnnbddaaGreatDoorm3
set_option linter.all false
set_option linter.unusedVariables false
set_option linter.unusedSimpArgs false
namespace Go.Proofs.YtdmmhemfnnbddaaGreatDoor
abbrev kpm12 : List (Nat × Go.Dl.Mode) := [(0, .light), (1, .light), (2, .light), (3, .light), (4, .light), (5, .light), (6, .light), (7, .light), (8, .light), (9, .light), (10, .light), (11, .light), (12, .light), (13, .light), (14, .light), (15, .light), (16, .light), (17, .light), (18, .light), (19, .light), (20, .light), (21, .light), (22, .light), (23, .light), (24, .light), (25, .light), (26, .light), (27, .light), (28, .light), (29, .light), (30, .light), (31, .light), (32, .light), (33, .light), (34, .light), (35, .light), (36, .light), (37, .light)]
abbrev kpm13 : List (Nat × Go.Dl.Mode) := [(0, .light), (1, .light), (2, .light), (3, .light), (4, .light), (5, .light), (6, .light), (7, .light), (8, .light), (9, .light), (10, .step), (11, .light), (12, .light)]
abbrev kpm14 : List (Nat × Go.Dl.Mode) := [(0, .light), (1, .light), (2, .light), (3, .light), (4, .light), (5, .light), (6, .light), (7, .light), (8, .light), (9, .light), (10, .light), (11, .light), (12, .step), (13, .light), (14, .light)]
end Go.Proofs.YtdmmhemfnnbddaaGreatDoor
/- Entries: links, the reference's; references tgt places. -/
namespace Go.Proofs.YtdmmhemfnnbddaaGreatDoor
open Go.Dl
open Go.Dl renaming dw_seq → kA, dw_block → kB, dw_reg → kC, dw_skip → kD, dw_exit → kE, dw_ret → kF, dw_cond → kG, guardC_f → kH, guardC_t → kI, dw_drw → kJ, dw_weaken → kK, sub_kn → kL, sub_ml → kM
open Go.Dl.CallC renaming mk → kN, light → kO
open Go.Dl.LeL renaming of_eq → kP
attribute [local irreducible] DW DCalls ECalls wk IW

set_option maxRecDepth 10000 in
set_option maxHeartbeats 8000000 in
theorem rLinks_D (e : Ent) : DCalls Tryz.prog 77 [.agg e.row] (dv (li (linksE e))) := by
  have hmax : maxLen = 9223372036854775807 := rfl
  refine dcalls (N := 76) (rs := [.tmp 2]) (by kernel_rfl) Tryz.func77 rfl rfl rfl (by simp) ?_
  rcases Bool.eq_false_or_eq_true (decide ((12 : Int) < (e.links.length : Int))) with t1 | t1
  · (repeat' (first | refine kA ?_ | refine kB ?_ | ((first | (refine kC (N := 76) rfl (by kernel_rfl) ?_) | (apply kJ (id := 13) (N := 76) kpm12; kernel_rfl; rfl; kernel_rfl; (repeat (first | exact Picks.nil | (apply Picks.cons; rfl)))) | refine kD ?_ | refine kE ?_ | refine kF ?_); simp +decide only [go_sem, t1, Ent.row]) | (apply kG; (simp +decide only [go_sem, t1, Ent.row]; rfl); all_goals (intro hcnd; first | (exact absurd hcnd (by decide)) | skip)) | ((first | refine kH ?_ ?_ | refine kI ?_ ?_) <;> (intro hcnd; simp +decide only [go_sem, hcnd, t1, Ent.row]))))
    rw [linksE, if_pos (by have := of_decide_eq_true t1; omega)]
  have n1 : ¬ 12 < e.links.length := by have := of_decide_eq_false t1; omega
  (repeat' (first | refine kA ?_ | refine kB ?_ | ((first | (refine kC (N := 76) rfl (by kernel_rfl) ?_) | (apply kJ (id := 13) (N := 76) kpm12; kernel_rfl; rfl; kernel_rfl; (repeat (first | exact Picks.nil | (apply Picks.cons; rfl)))) | refine kD ?_ | refine kE ?_); simp +decide only [go_sem, t1, Ent.row]) | (apply kG; (simp +decide only [go_sem, t1, Ent.row]; rfl); all_goals (intro hcnd; first | (exact absurd hcnd (by decide)) | skip)) | ((first | refine kH ?_ ?_ | refine kI ?_ ?_) <;> (intro hcnd; simp +decide only [go_sem, hcnd, t1, Ent.row]))))
  refine dw_rngI e.links (fun k => kn 76 [(1, .one (.bx 1 8 0 0)), (3, dv (li k))] (ml [(1, [e.row])])) (fun k => linkL e.id (prevAt e.links k) (e.links.drop k) = linksE e) (by omega) (kM rfl (by simp +decide only [go_sem]) (by simp +decide only [go_sem, Ent.row])) (by rw [linksE, if_neg n1]; simp [prev_zero]) ?_ ?_
  · intro k x hx hk hm htk hlt hw hi
    rw [drop_at hx, linkL] at hi
    have hI := rIdent_D x.tgt
    rcases Bool.eq_false_or_eq_true (decide (x.kind < 0)) with t2 | t2
    · have n2 := of_decide_eq_true t2
      have hE : linkE e.id (prevAt e.links k) x = 14 := by rw [linkE, if_pos (.inl n2)]
      rw [hE, if_pos (by decide)] at hi
      (repeat' (first | refine kA ?_ | refine kB ?_ | ((first | (refine kC (N := 76) rfl (by kernel_rfl) ?_) | (apply kJ (id := 13) (N := 76) kpm12; kernel_rfl; rfl; kernel_rfl; (repeat (first | exact Picks.nil | (apply Picks.cons; rfl)))) | refine kD ?_ | refine kE ?_ | refine kF ?_); simp +decide only [go_sem, hlt, hw, hx, t2, Ent.row, Lnk.enc]) | (apply kG; (simp +decide only [go_sem, hlt, hw, hx, t2, Ent.row, Lnk.enc]; rfl); all_goals (intro hcnd; first | (exact absurd hcnd (by decide)) | skip)) | ((first | refine kH ?_ ?_ | refine kI ?_ ?_) <;> (intro hcnd; simp +decide only [go_sem, hcnd, hlt, hw, hx, t2, Ent.row, Lnk.enc]))))
      rw [hi]
    have n2 := of_decide_eq_false t2
    rcases Bool.eq_false_or_eq_true (decide ((5 : Int) < x.kind)) with t3 | t3
    · have n3 := of_decide_eq_true t3
      have hE : linkE e.id (prevAt e.links k) x = 14 := by rw [linkE, if_pos (.inr n3)]
      rw [hE, if_pos (by decide)] at hi
      (repeat' (first | refine kA ?_ | refine kB ?_ | ((first | (refine kC (N := 76) rfl (by kernel_rfl) ?_) | (apply kJ (id := 13) (N := 76) kpm12; kernel_rfl; rfl; kernel_rfl; (repeat (first | exact Picks.nil | (apply Picks.cons; rfl)))) | refine kD ?_ | refine kE ?_ | refine kF ?_); simp +decide only [go_sem, hlt, hw, hx, t2, t3, Ent.row, Lnk.enc]) | (apply kG; (simp +decide only [go_sem, hlt, hw, hx, t2, t3, Ent.row, Lnk.enc]; rfl); all_goals (intro hcnd; first | (exact absurd hcnd (by decide)) | skip)) | ((first | refine kH ?_ ?_ | refine kI ?_ ?_) <;> (intro hcnd; simp +decide only [go_sem, hcnd, hlt, hw, hx, t2, t3, Ent.row, Lnk.enc]))))
      rw [hi]
    have n3 := of_decide_eq_false t3
    have n23 : ¬ (x.kind < 0 ∨ 5 < x.kind) := by omega
    cases t4 : ident x.tgt
    · rw [t4] at hI
      have hE : linkE e.id (prevAt e.links k) x = 2 := by rw [linkE, if_neg n23, t4]; rfl
      rw [hE, if_pos (by decide)] at hi
      (repeat' (first | refine kA ?_ | refine kB ?_ | ((first | (refine kC (N := 76) rfl (by kernel_rfl) ?_) | (apply kJ (id := 13) (N := 76) kpm12; kernel_rfl; rfl; kernel_rfl; (repeat (first | exact Picks.nil | (apply Picks.cons; rfl)))) | refine kD ?_ | refine kE ?_ | (refine kN (hI) (kP rfl) ?_) | (refine kO (hI) (kP rfl) ?_) | refine kF ?_); simp +decide only [go_sem, hlt, hw, hx, t2, t3, Ent.row, Lnk.enc]) | (apply kG; (simp +decide only [go_sem, hlt, hw, hx, t2, t3, Ent.row, Lnk.enc]; rfl); all_goals (intro hcnd; first | (exact absurd hcnd (by decide)) | skip)) | ((first | refine kH ?_ ?_ | refine kI ?_ ?_) <;> (intro hcnd; simp +decide only [go_sem, hcnd, hlt, hw, hx, t2, t3, Ent.row, Lnk.enc]))))
      rw [hi]
    rw [t4] at hI
    have n4 : ¬ ident x.tgt = false := by rw [t4]; decide
    rcases Bool.eq_false_or_eq_true (x.tgt == e.id) with t5 | t5
    · have hE : linkE e.id (prevAt e.links k) x = 17 := by rw [linkE, if_neg n23, if_neg n4, if_pos (by simpa using t5)]
      rw [hE, if_pos (by decide)] at hi
      (repeat' (first | refine kA ?_ | refine kB ?_ | ((first | (refine kC (N := 76) rfl (by kernel_rfl) ?_) | (apply kJ (id := 13) (N := 76) kpm12; kernel_rfl; rfl; kernel_rfl; (repeat (first | exact Picks.nil | (apply Picks.cons; rfl)))) | refine kD ?_ | refine kE ?_ | (refine kN (hI) (kP rfl) ?_) | (refine kO (hI) (kP rfl) ?_) | refine kF ?_); simp +decide only [go_sem, hlt, hw, hx, t2, t3, t5, Ent.row, Lnk.enc]) | (apply kG; (simp +decide only [go_sem, hlt, hw, hx, t2, t3, t5, Ent.row, Lnk.enc]; rfl); all_goals (intro hcnd; first | (exact absurd hcnd (by decide)) | skip)) | ((first | refine kH ?_ ?_ | refine kI ?_ ?_) <;> (intro hcnd; simp +decide only [go_sem, hcnd, hlt, hw, hx, t2, t3, t5, Ent.row, Lnk.enc]))))
      rw [hi]
    have n5 : ¬ x.tgt = e.id := by simpa using t5
    have hE5 : linkE e.id (prevAt e.links k) x = if badP (prevAt e.links k) x = true then 10 else 0 := by rw [linkE, if_neg n23, if_neg n4, if_neg n5]
    rw [hE5] at hi
    clear hE5
    rcases Nat.eq_zero_or_pos k with hk0 | hk0
    · have h0 : decide ((0 : Int) < (k : Int)) = false := by simp [hk0]
      have hb : badP (prevAt e.links k) x = false := by rw [hk0]; rfl
      rw [hb, if_neg (by decide)] at hi
      (repeat' (first | refine kA ?_ | refine kB ?_ | ((first | (refine kC (N := 76) rfl (by kernel_rfl) ?_) | (apply kJ (id := 13) (N := 76) kpm12; kernel_rfl; rfl; kernel_rfl; (repeat (first | exact Picks.nil | (apply Picks.cons; rfl)))) | refine kD ?_ | refine kE ?_ | (refine kN (hI) (kP rfl) ?_) | (refine kO (hI) (kP rfl) ?_) | refine kF ?_); simp +decide only [go_sem, hlt, hw, hx, t2, t3, t5, h0, Ent.row, Lnk.enc]) | (apply kG; (simp +decide only [go_sem, hlt, hw, hx, t2, t3, t5, h0, Ent.row, Lnk.enc]; rfl); all_goals (intro hcnd; first | (exact absurd hcnd (by decide)) | skip)) | ((first | refine kH ?_ ?_ | refine kI ?_ ?_) <;> (intro hcnd; simp +decide only [go_sem, hcnd, hlt, hw, hx, t2, t3, t5, h0, Ent.row, Lnk.enc]))))
      exact ⟨by rw [prev_succ hx]; exact hi, kM rfl (by simp +decide only [go_sem]) (by simp +decide only [go_sem, Ent.row])⟩
    · obtain ⟨m, hkm⟩ : ∃ m, k = m + 1 := ⟨k - 1, by omega⟩
      obtain ⟨y, hy⟩ : ∃ y, e.links[m]? = some y := ⟨_, List.getElem?_eq_getElem (by omega)⟩
      have h0 : decide ((0 : Int) < (k : Int)) = true := by simp; omega
      have hwm : IntKind.i64.wrap ((k : Int) - 1) = (m : Int) := by rw [show (k : Int) - 1 = (m : Int) by omega]; exact wrap64n (by omega)
      have bad : lessL y x = false → linkL e.id (prevAt e.links k) (x :: e.links.drop (k + 1)) = 10 := fun t7 => by
        have hb : badP (prevAt e.links k) x = true := by rw [hkm, prev_succ hy, badP, t7]; rfl
        rw [linkL, linkE, if_neg n23, if_neg n4, if_neg n5, hb, if_pos rfl, if_pos (by decide)]
      have good : lessL y x = true → linkL e.id (some x) (e.links.drop (k + 1)) = linksE e := fun t7 => by
        have hb : badP (prevAt e.links k) x = false := by rw [hkm, prev_succ hy, badP, t7]; rfl
        rw [hb, if_neg (by decide)] at hi
        exact hi
      have all : linkL e.id (prevAt e.links k) (x :: e.links.drop (k + 1)) = linksE e := by
        rw [linkL, linkE, if_neg n23, if_neg n4, if_neg n5]; exact hi
      rcases Bool.eq_false_or_eq_true (decide (x.kind < y.kind)) with c1 | c1
      · have m1 := of_decide_eq_true c1
        rw [bad (by simp [lessL]; omega)] at all
        (repeat' (first | refine kA ?_ | refine kB ?_ | ((first | (refine kC (N := 76) rfl (by kernel_rfl) ?_) | (apply kJ (id := 13) (N := 76) kpm12; kernel_rfl; rfl; kernel_rfl; (repeat (first | exact Picks.nil | (apply Picks.cons; rfl)))) | refine kD ?_ | refine kE ?_ | (refine kN (hI) (kP rfl) ?_) | (refine kO (hI) (kP rfl) ?_) | refine kF ?_); simp +decide only [go_sem, hlt, hw, hx, hy, t2, t3, t5, h0, hwm, c1, Int.toNat_natCast, Ent.row, Lnk.enc]) | (apply kG; (simp +decide only [go_sem, hlt, hw, hx, hy, t2, t3, t5, h0, hwm, c1, Int.toNat_natCast, Ent.row, Lnk.enc]; rfl); all_goals (intro hcnd; first | (exact absurd hcnd (by decide)) | skip)) | ((first | refine kH ?_ ?_ | refine kI ?_ ?_) <;> (intro hcnd; simp +decide only [go_sem, hcnd, hlt, hw, hx, hy, t2, t3, t5, h0, hwm, c1, Int.toNat_natCast, Ent.row, Lnk.enc]))))
        rw [all]
      have m1 := of_decide_eq_false c1
      rcases Bool.eq_false_or_eq_true (x.kind == y.kind) with c2 | c2
      · have m2 : x.kind = y.kind := by simpa using c2
        rcases Bool.eq_false_or_eq_true (decide (x.tgt ≤ y.tgt)) with c3 | c3
        · have m3 := of_decide_eq_true c3
          rw [bad (by simp [lessL]; omega)] at all
          (repeat' (first | refine kA ?_ | refine kB ?_ | ((first | (refine kC (N := 76) rfl (by kernel_rfl) ?_) | (apply kJ (id := 13) (N := 76) kpm12; kernel_rfl; rfl; kernel_rfl; (repeat (first | exact Picks.nil | (apply Picks.cons; rfl)))) | refine kD ?_ | refine kE ?_ | (refine kN (hI) (kP rfl) ?_) | (refine kO (hI) (kP rfl) ?_) | refine kF ?_); simp +decide only [go_sem, hlt, hw, hx, hy, t2, t3, t5, h0, hwm, c1, c2, c3, Int.toNat_natCast, Ent.row, Lnk.enc]) | (apply kG; (simp +decide only [go_sem, hlt, hw, hx, hy, t2, t3, t5, h0, hwm, c1, c2, c3, Int.toNat_natCast, Ent.row, Lnk.enc]; rfl); all_goals (intro hcnd; first | (exact absurd hcnd (by decide)) | skip)) | ((first | refine kH ?_ ?_ | refine kI ?_ ?_) <;> (intro hcnd; simp +decide only [go_sem, hcnd, hlt, hw, hx, hy, t2, t3, t5, h0, hwm, c1, c2, c3, Int.toNat_natCast, Ent.row, Lnk.enc]))))
          rw [all]
        · have m3 := of_decide_eq_false c3
          have hg := good (by simp [lessL]; omega)
          (repeat' (first | refine kA ?_ | refine kB ?_ | ((first | (refine kC (N := 76) rfl (by kernel_rfl) ?_) | (apply kJ (id := 13) (N := 76) kpm12; kernel_rfl; rfl; kernel_rfl; (repeat (first | exact Picks.nil | (apply Picks.cons; rfl)))) | refine kD ?_ | refine kE ?_ | (refine kN (hI) (kP rfl) ?_) | (refine kO (hI) (kP rfl) ?_) | refine kF ?_); simp +decide only [go_sem, hlt, hw, hx, hy, t2, t3, t5, h0, hwm, c1, c2, c3, Int.toNat_natCast, Ent.row, Lnk.enc]) | (apply kG; (simp +decide only [go_sem, hlt, hw, hx, hy, t2, t3, t5, h0, hwm, c1, c2, c3, Int.toNat_natCast, Ent.row, Lnk.enc]; rfl); all_goals (intro hcnd; first | (exact absurd hcnd (by decide)) | skip)) | ((first | refine kH ?_ ?_ | refine kI ?_ ?_) <;> (intro hcnd; simp +decide only [go_sem, hcnd, hlt, hw, hx, hy, t2, t3, t5, h0, hwm, c1, c2, c3, Int.toNat_natCast, Ent.row, Lnk.enc]))))
          exact ⟨by rw [prev_succ hx]; exact hg, kM rfl (by simp +decide only [go_sem]) (by simp +decide only [go_sem, Ent.row])⟩
      · have m2 : x.kind ≠ y.kind := by simpa using c2
        have hg := good (by simp [lessL]; omega)
        (repeat' (first | refine kA ?_ | refine kB ?_ | ((first | (refine kC (N := 76) rfl (by kernel_rfl) ?_) | (apply kJ (id := 13) (N := 76) kpm12; kernel_rfl; rfl; kernel_rfl; (repeat (first | exact Picks.nil | (apply Picks.cons; rfl)))) | refine kD ?_ | refine kE ?_ | (refine kN (hI) (kP rfl) ?_) | (refine kO (hI) (kP rfl) ?_) | refine kF ?_); simp +decide only [go_sem, hlt, hw, hx, hy, t2, t3, t5, h0, hwm, c1, c2, Int.toNat_natCast, Ent.row, Lnk.enc]) | (apply kG; (simp +decide only [go_sem, hlt, hw, hx, hy, t2, t3, t5, h0, hwm, c1, c2, Int.toNat_natCast, Ent.row, Lnk.enc]; rfl); all_goals (intro hcnd; first | (exact absurd hcnd (by decide)) | skip)) | ((first | refine kH ?_ ?_ | refine kI ?_ ?_) <;> (intro hcnd; simp +decide only [go_sem, hcnd, hlt, hw, hx, hy, t2, t3, t5, h0, hwm, c1, c2, Int.toNat_natCast, Ent.row, Lnk.enc]))))
        exact ⟨by rw [prev_succ hx]; exact hg, kM rfl (by simp +decide only [go_sem]) (by simp +decide only [go_sem, Ent.row])⟩
  · intro hlt hi
    (repeat' (first | refine kA ?_ | refine kB ?_ | ((first | (refine kC (N := 76) rfl (by kernel_rfl) ?_) | (apply kJ (id := 13) (N := 76) kpm12; kernel_rfl; rfl; kernel_rfl; (repeat (first | exact Picks.nil | (apply Picks.cons; rfl)))) | refine kD ?_ | refine kE ?_ | refine kF ?_); simp +decide only [go_sem, hlt, Ent.row]) | (apply kG; (simp +decide only [go_sem, hlt, Ent.row]; rfl); all_goals (intro hcnd; first | (exact absurd hcnd (by decide)) | skip)) | ((first | refine kH ?_ ?_ | refine kI ?_ ?_) <;> (intro hcnd; simp +decide only [go_sem, hcnd, hlt, Ent.row]))))
    rw [← hi]; simp [linkL]

def refE (p : Option Lnk) (x : Lnk) : Int := if okRef x = false then 2 else if badP p x = true then 10 else 0
def refL (p : Option Lnk) : List Lnk → Int
  | [] => 0
  | x :: l => if refE p x ≠ 0 then refE p x else refL (some x) l
def refsE (rs : List Lnk) : Int := if 12 < rs.length then 11 else refL none rs

set_option maxRecDepth 10000 in
set_option maxHeartbeats 8000000 in
theorem refs_D (e : Ent) (rs : List Lnk) (hrs : e.refs = rs) : DCalls Tryz.prog 73 [.agg e.row] (dv (li (refsE rs))) := by
  have hmax : maxLen = 9223372036854775807 := rfl
  refine dcalls (N := 34) (rs := [.tmp 2]) (by kernel_rfl) Tryz.func73 rfl rfl rfl (by simp) ?_
  rcases Bool.eq_false_or_eq_true (decide ((12 : Int) < (rs.length : Int))) with t1 | t1
  · (repeat' (first | refine kA ?_ | refine kB ?_ | ((first | (refine kC (N := 34) rfl (by kernel_rfl) ?_) | (apply kJ (id := 8) (N := 34) kpm13; kernel_rfl; rfl; kernel_rfl; (repeat (first | exact Picks.nil | (apply Picks.cons; rfl)))) | refine kD ?_ | refine kE ?_ | refine kF ?_); simp +decide only [go_sem, t1, Ent.row, hrs]) | (apply kG; (simp +decide only [go_sem, t1, Ent.row, hrs]; rfl); all_goals (intro hcnd; first | (exact absurd hcnd (by decide)) | skip)) | ((first | refine kH ?_ ?_ | refine kI ?_ ?_) <;> (intro hcnd; simp +decide only [go_sem, hcnd, t1, Ent.row, hrs]))))
    rw [refsE, if_pos (by have := of_decide_eq_true t1; omega)]
  have n1 : ¬ 12 < rs.length := by have := of_decide_eq_false t1; omega
  (repeat' (first | refine kA ?_ | refine kB ?_ | ((first | (refine kC (N := 34) rfl (by kernel_rfl) ?_) | (apply kJ (id := 8) (N := 34) kpm13; kernel_rfl; rfl; kernel_rfl; (repeat (first | exact Picks.nil | (apply Picks.cons; rfl)))) | refine kD ?_ | refine kE ?_); simp +decide only [go_sem, t1, Ent.row, hrs]) | (apply kG; (simp +decide only [go_sem, t1, Ent.row, hrs]; rfl); all_goals (intro hcnd; first | (exact absurd hcnd (by decide)) | skip)) | ((first | refine kH ?_ ?_ | refine kI ?_ ?_) <;> (intro hcnd; simp +decide only [go_sem, hcnd, t1, Ent.row, hrs]))))
  refine dw_rngI rs (fun k => kn 34 [(1, .one (.bx 1 8 0 0)), (10, dv (.sl 2 (rs.map Lnk.enc))), (11, dv (li rs.length)), (12, dv (li k))] (ml [(1, [e.row])])) (fun k => refL (prevAt rs k) (rs.drop k) = refsE rs) (by omega) (kM rfl (by simp +decide only [go_sem]) (by simp +decide only [go_sem, Ent.row, hrs])) (by rw [refsE, if_neg n1]; simp [prev_zero]) ?_ ?_
  · intro k x hx hk hm htk hlt hw hi
    rw [drop_at hx, refL] at hi
    have hI := named_D x
    simp only [Lnk.row] at hI
    cases t4 : okRef x
    · rw [t4] at hI
      have hE : refE (prevAt rs k) x = 2 := by rw [refE, t4]; rfl
      rw [hE, if_pos (by decide)] at hi
      (repeat' (first | refine kA ?_ | refine kB ?_ | ((first | (refine kC (N := 34) rfl (by kernel_rfl) ?_) | (apply kJ (id := 8) (N := 34) kpm13; kernel_rfl; rfl; kernel_rfl; (repeat (first | exact Picks.nil | (apply Picks.cons; rfl)))) | refine kD ?_ | refine kE ?_ | (refine kN (hI) (kP rfl) ?_) | (refine kO (hI) (kP rfl) ?_) | refine kF ?_); simp +decide only [go_sem, hlt, hw, hx, Ent.row, hrs, Lnk.enc, Lnk.row]) | (apply kG; (simp +decide only [go_sem, hlt, hw, hx, Ent.row, hrs, Lnk.enc, Lnk.row]; rfl); all_goals (intro hcnd; first | (exact absurd hcnd (by decide)) | skip)) | ((first | refine kH ?_ ?_ | refine kI ?_ ?_) <;> (intro hcnd; simp +decide only [go_sem, hcnd, hlt, hw, hx, Ent.row, hrs, Lnk.enc, Lnk.row]))))
      rw [hi]
    rw [t4] at hI
    have n4 : ¬ okRef x = false := by rw [t4]; decide
    have hE5 : refE (prevAt rs k) x = if badP (prevAt rs k) x = true then 10 else 0 := by rw [refE, if_neg n4]
    rw [hE5] at hi
    clear hE5
    rcases Nat.eq_zero_or_pos k with hk0 | hk0
    · have h0 : decide ((0 : Int) < (k : Int)) = false := by simp [hk0]
      have hb : badP (prevAt rs k) x = false := by rw [hk0]; rfl
      rw [hb, if_neg (by decide)] at hi
      (repeat' (first | refine kA ?_ | refine kB ?_ | ((first | (refine kC (N := 34) rfl (by kernel_rfl) ?_) | (apply kJ (id := 8) (N := 34) kpm13; kernel_rfl; rfl; kernel_rfl; (repeat (first | exact Picks.nil | (apply Picks.cons; rfl)))) | refine kD ?_ | refine kE ?_ | (refine kN (hI) (kP rfl) ?_) | (refine kO (hI) (kP rfl) ?_) | refine kF ?_); simp +decide only [go_sem, hlt, hw, hx, h0, Ent.row, hrs, Lnk.enc, Lnk.row]) | (apply kG; (simp +decide only [go_sem, hlt, hw, hx, h0, Ent.row, hrs, Lnk.enc, Lnk.row]; rfl); all_goals (intro hcnd; first | (exact absurd hcnd (by decide)) | skip)) | ((first | refine kH ?_ ?_ | refine kI ?_ ?_) <;> (intro hcnd; simp +decide only [go_sem, hcnd, hlt, hw, hx, h0, Ent.row, hrs, Lnk.enc, Lnk.row]))))
      exact ⟨by rw [prev_succ hx]; exact hi, kM rfl (by simp +decide only [go_sem]) (by simp +decide only [go_sem, Ent.row, hrs])⟩
    · obtain ⟨m, hkm⟩ : ∃ m, k = m + 1 := ⟨k - 1, by omega⟩
      obtain ⟨y, hy⟩ : ∃ y, rs[m]? = some y := ⟨_, List.getElem?_eq_getElem (by omega)⟩
      have h0 : decide ((0 : Int) < (k : Int)) = true := by simp; omega
      have hwm : IntKind.i64.wrap ((k : Int) - 1) = (m : Int) := by rw [show (k : Int) - 1 = (m : Int) by omega]; exact wrap64n (by omega)
      have hO := order_D y x
      simp only [Lnk.row] at hO
      have hord := ord_less y x
      cases t7 : lessL y x
      · rw [t7] at hord
        have hb : badP (prevAt rs k) x = true := by rw [hkm, prev_succ hy, badP, t7]; rfl
        rw [hb, if_pos (by decide), if_pos rfl] at hi
        (repeat' (first | refine kA ?_ | refine kB ?_ | ((first | (refine kC (N := 34) rfl (by kernel_rfl) ?_) | (apply kJ (id := 8) (N := 34) kpm13; kernel_rfl; rfl; kernel_rfl; (repeat (first | exact Picks.nil | (apply Picks.cons; rfl)))) | refine kD ?_ | refine kE ?_ | (refine kN (hI) (kP rfl) ?_) | (refine kO (hI) (kP rfl) ?_) | (refine kN (hO) (kP rfl) ?_) | (refine kO (hO) (kP rfl) ?_) | refine kF ?_); simp +decide only [go_sem, hlt, hw, hx, hy, h0, hwm, hord, Int.toNat_natCast, Ent.row, hrs, Lnk.enc, Lnk.row]) | (apply kG; (simp +decide only [go_sem, hlt, hw, hx, hy, h0, hwm, hord, Int.toNat_natCast, Ent.row, hrs, Lnk.enc, Lnk.row]; rfl); all_goals (intro hcnd; first | (exact absurd hcnd (by decide)) | skip)) | ((first | refine kH ?_ ?_ | refine kI ?_ ?_) <;> (intro hcnd; simp +decide only [go_sem, hcnd, hlt, hw, hx, hy, h0, hwm, hord, Int.toNat_natCast, Ent.row, hrs, Lnk.enc, Lnk.row]))))
        rw [hi]
      · rw [t7] at hord
        have hb : badP (prevAt rs k) x = false := by rw [hkm, prev_succ hy, badP, t7]; rfl
        rw [hb, if_neg (by decide)] at hi
        (repeat' (first | refine kA ?_ | refine kB ?_ | ((first | (refine kC (N := 34) rfl (by kernel_rfl) ?_) | (apply kJ (id := 8) (N := 34) kpm13; kernel_rfl; rfl; kernel_rfl; (repeat (first | exact Picks.nil | (apply Picks.cons; rfl)))) | refine kD ?_ | refine kE ?_ | (refine kN (hI) (kP rfl) ?_) | (refine kO (hI) (kP rfl) ?_) | (refine kN (hO) (kP rfl) ?_) | (refine kO (hO) (kP rfl) ?_) | refine kF ?_); simp +decide only [go_sem, hlt, hw, hx, hy, h0, hwm, hord, Int.toNat_natCast, Ent.row, hrs, Lnk.enc, Lnk.row]) | (apply kG; (simp +decide only [go_sem, hlt, hw, hx, hy, h0, hwm, hord, Int.toNat_natCast, Ent.row, hrs, Lnk.enc, Lnk.row]; rfl); all_goals (intro hcnd; first | (exact absurd hcnd (by decide)) | skip)) | ((first | refine kH ?_ ?_ | refine kI ?_ ?_) <;> (intro hcnd; simp +decide only [go_sem, hcnd, hlt, hw, hx, hy, h0, hwm, hord, Int.toNat_natCast, Ent.row, hrs, Lnk.enc, Lnk.row]))))
        exact ⟨by rw [prev_succ hx]; exact hi, kM rfl (by simp +decide only [go_sem]) (by simp +decide only [go_sem, Ent.row, hrs])⟩
  · intro hlt hi
    (repeat' (first | refine kA ?_ | refine kB ?_ | ((first | (refine kC (N := 34) rfl (by kernel_rfl) ?_) | (apply kJ (id := 8) (N := 34) kpm13; kernel_rfl; rfl; kernel_rfl; (repeat (first | exact Picks.nil | (apply Picks.cons; rfl)))) | refine kD ?_ | refine kE ?_ | refine kF ?_); simp +decide only [go_sem, hlt, Ent.row, hrs]) | (apply kG; (simp +decide only [go_sem, hlt, Ent.row, hrs]; rfl); all_goals (intro hcnd; first | (exact absurd hcnd (by decide)) | skip)) | ((first | refine kH ?_ ?_ | refine kI ?_ ?_) <;> (intro hcnd; simp +decide only [go_sem, hcnd, hlt, Ent.row, hrs]))))
    rw [← hi]; simp [refL]

set_option maxRecDepth 10000 in
set_option maxHeartbeats 8000000 in
theorem rRefs_D (rs : List Lnk) : DCalls Tryz.prog 78 [dv (.sl 2 (rs.map Lnk.enc)), dv (li 12)] (dv (li (refsE rs))) := by
  have hmax : maxLen = 9223372036854775807 := rfl
  refine dcalls (N := 37) (rs := [.tmp 4]) (by kernel_rfl) Tryz.func78 rfl rfl rfl (by simp) ?_
  rcases Bool.eq_false_or_eq_true (decide ((12 : Int) < (rs.length : Int))) with t1 | t1
  · (repeat' (first | refine kA ?_ | refine kB ?_ | ((first | (refine kC (N := 37) rfl (by kernel_rfl) ?_) | (apply kJ (id := 8) (N := 37) kpm14; kernel_rfl; rfl; kernel_rfl; (repeat (first | exact Picks.nil | (apply Picks.cons; rfl)))) | refine kD ?_ | refine kE ?_ | refine kF ?_); simp +decide only [go_sem, t1]) | (apply kG; (simp +decide only [go_sem, t1]; rfl); all_goals (intro hcnd; first | (exact absurd hcnd (by decide)) | skip)) | ((first | refine kH ?_ ?_ | refine kI ?_ ?_) <;> (intro hcnd; simp +decide only [go_sem, hcnd, t1]))))
    rw [refsE, if_pos (by have := of_decide_eq_true t1; omega)]
  have n1 : ¬ 12 < rs.length := by have := of_decide_eq_false t1; omega
  (repeat' (first | refine kA ?_ | refine kB ?_ | ((first | (refine kC (N := 37) rfl (by kernel_rfl) ?_) | (apply kJ (id := 8) (N := 37) kpm14; kernel_rfl; rfl; kernel_rfl; (repeat (first | exact Picks.nil | (apply Picks.cons; rfl)))) | refine kD ?_ | refine kE ?_); simp +decide only [go_sem, t1]) | (apply kG; (simp +decide only [go_sem, t1]; rfl); all_goals (intro hcnd; first | (exact absurd hcnd (by decide)) | skip)) | ((first | refine kH ?_ ?_ | refine kI ?_ ?_) <;> (intro hcnd; simp +decide only [go_sem, hcnd, t1]))))
  refine dw_rngI rs (fun k => kn 37 [(0, dv (.sl 2 (rs.map Lnk.enc))), (5, dv (li k))] noMem) (fun k => refL (prevAt rs k) (rs.drop k) = refsE rs) (by omega) (kL rfl (by simp +decide only [go_sem]) (by simp [noMem])) (by rw [refsE, if_neg n1]; simp [prev_zero]) ?_ ?_
  · intro k x hx hk hm htk hlt hw hi
    rw [drop_at hx, refL] at hi
    have hI := rRef_D x
    simp only [Lnk.row] at hI
    cases t4 : okRef x
    · rw [t4] at hI
      have hE : refE (prevAt rs k) x = 2 := by rw [refE, t4]; rfl
      rw [hE, if_pos (by decide)] at hi
      (repeat' (first | refine kA ?_ | refine kB ?_ | ((first | (refine kC (N := 37) rfl (by kernel_rfl) ?_) | (apply kJ (id := 8) (N := 37) kpm14; kernel_rfl; rfl; kernel_rfl; (repeat (first | exact Picks.nil | (apply Picks.cons; rfl)))) | refine kD ?_ | refine kE ?_ | (refine kN (hI) (kP rfl) ?_) | (refine kO (hI) (kP rfl) ?_) | refine kF ?_); simp +decide only [go_sem, hlt, hw, hx, Lnk.enc, Lnk.row]) | (apply kG; (simp +decide only [go_sem, hlt, hw, hx, Lnk.enc, Lnk.row]; rfl); all_goals (intro hcnd; first | (exact absurd hcnd (by decide)) | skip)) | ((first | refine kH ?_ ?_ | refine kI ?_ ?_) <;> (intro hcnd; simp +decide only [go_sem, hcnd, hlt, hw, hx, Lnk.enc, Lnk.row]))))
      rw [hi]
    rw [t4] at hI
    have n4 : ¬ okRef x = false := by rw [t4]; decide
    have hE5 : refE (prevAt rs k) x = if badP (prevAt rs k) x = true then 10 else 0 := by rw [refE, if_neg n4]
    rw [hE5] at hi
    clear hE5
    rcases Nat.eq_zero_or_pos k with hk0 | hk0
    · have h0 : decide ((0 : Int) < (k : Int)) = false := by simp [hk0]
      have hb : badP (prevAt rs k) x = false := by rw [hk0]; rfl
      rw [hb, if_neg (by decide)] at hi
      (repeat' (first | refine kA ?_ | refine kB ?_ | ((first | (refine kC (N := 37) rfl (by kernel_rfl) ?_) | (apply kJ (id := 8) (N := 37) kpm14; kernel_rfl; rfl; kernel_rfl; (repeat (first | exact Picks.nil | (apply Picks.cons; rfl)))) | refine kD ?_ | refine kE ?_ | (refine kN (hI) (kP rfl) ?_) | (refine kO (hI) (kP rfl) ?_) | refine kF ?_); simp +decide only [go_sem, hlt, hw, hx, h0, Lnk.enc, Lnk.row]) | (apply kG; (simp +decide only [go_sem, hlt, hw, hx, h0, Lnk.enc, Lnk.row]; rfl); all_goals (intro hcnd; first | (exact absurd hcnd (by decide)) | skip)) | ((first | refine kH ?_ ?_ | refine kI ?_ ?_) <;> (intro hcnd; simp +decide only [go_sem, hcnd, hlt, hw, hx, h0, Lnk.enc, Lnk.row]))))
      exact ⟨by rw [prev_succ hx]; exact hi, kL rfl (by simp +decide only [go_sem]) (by simp [noMem])⟩
    · obtain ⟨m, hkm⟩ : ∃ m, k = m + 1 := ⟨k - 1, by omega⟩
      obtain ⟨y, hy⟩ : ∃ y, rs[m]? = some y := ⟨_, List.getElem?_eq_getElem (by omega)⟩
      have h0 : decide ((0 : Int) < (k : Int)) = true := by simp; omega
      have hwm : IntKind.i64.wrap ((k : Int) - 1) = (m : Int) := by rw [show (k : Int) - 1 = (m : Int) by omega]; exact wrap64n (by omega)
      have hO := prec_D y x
      simp only [Lnk.row] at hO
      cases t7 : lessL y x
      · rw [t7] at hO
        have hb : badP (prevAt rs k) x = true := by rw [hkm, prev_succ hy, badP, t7]; rfl
        rw [hb, if_pos (by decide), if_pos rfl] at hi
        (repeat' (first | refine kA ?_ | refine kB ?_ | ((first | (refine kC (N := 37) rfl (by kernel_rfl) ?_) | (apply kJ (id := 8) (N := 37) kpm14; kernel_rfl; rfl; kernel_rfl; (repeat (first | exact Picks.nil | (apply Picks.cons; rfl)))) | refine kD ?_ | refine kE ?_ | (refine kN (hI) (kP rfl) ?_) | (refine kO (hI) (kP rfl) ?_) | (refine kN (hO) (kP rfl) ?_) | (refine kO (hO) (kP rfl) ?_) | refine kF ?_); simp +decide only [go_sem, hlt, hw, hx, hy, h0, hwm, Int.toNat_natCast, Lnk.enc, Lnk.row]) | (apply kG; (simp +decide only [go_sem, hlt, hw, hx, hy, h0, hwm, Int.toNat_natCast, Lnk.enc, Lnk.row]; rfl); all_goals (intro hcnd; first | (exact absurd hcnd (by decide)) | skip)) | ((first | refine kH ?_ ?_ | refine kI ?_ ?_) <;> (intro hcnd; simp +decide only [go_sem, hcnd, hlt, hw, hx, hy, h0, hwm, Int.toNat_natCast, Lnk.enc, Lnk.row]))))
        rw [hi]
      · rw [t7] at hO
        have hb : badP (prevAt rs k) x = false := by rw [hkm, prev_succ hy, badP, t7]; rfl
        rw [hb, if_neg (by decide)] at hi
        (repeat' (first | refine kA ?_ | refine kB ?_ | ((first | (refine kC (N := 37) rfl (by kernel_rfl) ?_) | (apply kJ (id := 8) (N := 37) kpm14; kernel_rfl; rfl; kernel_rfl; (repeat (first | exact Picks.nil | (apply Picks.cons; rfl)))) | refine kD ?_ | refine kE ?_ | (refine kN (hI) (kP rfl) ?_) | (refine kO (hI) (kP rfl) ?_) | (refine kN (hO) (kP rfl) ?_) | (refine kO (hO) (kP rfl) ?_) | refine kF ?_); simp +decide only [go_sem, hlt, hw, hx, hy, h0, hwm, Int.toNat_natCast, Lnk.enc, Lnk.row]) | (apply kG; (simp +decide only [go_sem, hlt, hw, hx, hy, h0, hwm, Int.toNat_natCast, Lnk.enc, Lnk.row]; rfl); all_goals (intro hcnd; first | (exact absurd hcnd (by decide)) | skip)) | ((first | refine kH ?_ ?_ | refine kI ?_ ?_) <;> (intro hcnd; simp +decide only [go_sem, hcnd, hlt, hw, hx, hy, h0, hwm, Int.toNat_natCast, Lnk.enc, Lnk.row]))))
        exact ⟨by rw [prev_succ hx]; exact hi, kL rfl (by simp +decide only [go_sem]) (by simp [noMem])⟩
  · intro hlt hi
    (repeat' (first | refine kA ?_ | refine kB ?_ | ((first | (refine kC (N := 37) rfl (by kernel_rfl) ?_) | (apply kJ (id := 8) (N := 37) kpm14; kernel_rfl; rfl; kernel_rfl; (repeat (first | exact Picks.nil | (apply Picks.cons; rfl)))) | refine kD ?_ | refine kE ?_ | refine kF ?_); simp +decide only [go_sem, hlt]) | (apply kG; (simp +decide only [go_sem, hlt]; rfl); all_goals (intro hcnd; first | (exact absurd hcnd (by decide)) | skip)) | ((first | refine kH ?_ ?_ | refine kI ?_ ?_) <;> (intro hcnd; simp +decide only [go_sem, hcnd, hlt]))))
    rw [← hi]; simp [refL]

end Go.Proofs.YtdmmhemfnnbddaaGreatDoor

/- Entries: what is wrong with an entry; copies. -/
namespace Go.Proofs.YtdmmhemfnnbddaaGreatDoor
open Go.Dl
open Go.Dl renaming dw_seq → kA, dw_block → kB, dw_reg → kC, dw_skip → kD, dw_exit → kE, dw_ret → kF, dw_cond → kG, guardC_f → kH, guardC_t → kI, dw_drw → kJ, dw_weaken → kK, sub_kn → kL, sub_ml → kM
open Go.Dl.CallC renaming mk → kN, light → kO
open Go.Dl.LeL renaming of_eq → kP
attribute [local irreducible] DW DCalls ECalls wk IW

structure MidE (e : Ent) : Prop where
  form : e.form.length ≤ 1048576
  alts : e.alts.length ≤ 1048576
  alt : ∀ a ∈ e.alts, a.length ≤ 1048576
  senses : e.senses.length ≤ 1048576
  links : e.links.length ≤ 1048576
  refs : e.refs.length ≤ 1048576
  strs : ∀ s ∈ e.senses, s.gloss.size ≤ 1048576 ∧ s.txt.size ≤ 1048576

def checkE (g : List Phon) (e : Ent) : Int :=
  if ident e.id = false then 2 else if formsE g e ≠ 0 then formsE g e else if sensesE e ≠ 0 then sensesE e else if linksE e ≠ 0 then linksE e else refsE e.refs

set_option maxRecDepth 10000 in
set_option maxHeartbeats 8000000 in
theorem check_D (g : List Phon) (e : Ent) : DCalls Tryz.prog 40 [.agg (invRow g), .agg e.row] (dv (li (checkE g e))) := by
  have hI := ident_D e.id
  have h1 := forms_D g e
  have h2 := senses_D e
  have h3 := links_D e
  have h4 := refs_D e e.refs rfl
  simp only [Ent.row, invRow] at h1 h2 h3 h4
  refine dcalls (N := 30) (rs := [.tmp 4]) (by kernel_rfl) Tryz.func40 rfl rfl rfl (by simp) ?_
  cases t0 : ident e.id
  · rw [t0] at hI
    (repeat' (first | refine kA ?_ | refine kB ?_ | ((first | (refine kC (N := 30) rfl (by kernel_rfl) ?_) | refine kD ?_ | refine kE ?_ | (refine kN (hI) (kP rfl) ?_) | (refine kO (hI) (kP rfl) ?_) | refine kF ?_); simp +decide only [go_sem, Ent.row, invRow]) | (apply kG; (simp +decide only [go_sem, Ent.row, invRow]; rfl); all_goals (intro hcnd; first | (exact absurd hcnd (by decide)) | skip))))
    rw [checkE, if_pos t0]
  rw [t0] at hI
  have n0 : ¬ ident e.id = false := by rw [t0]; decide
  rcases Bool.eq_false_or_eq_true (formsE g e != 0) with t1 | t1
  · have n1 : formsE g e ≠ 0 := by simpa using t1
    (repeat' (first | refine kA ?_ | refine kB ?_ | ((first | (refine kC (N := 30) rfl (by kernel_rfl) ?_) | refine kD ?_ | refine kE ?_ | (refine kN (hI) (kP rfl) ?_) | (refine kO (hI) (kP rfl) ?_) | (refine kN (h1) (kP rfl) ?_) | (refine kO (h1) (kP rfl) ?_) | refine kF ?_); simp +decide only [go_sem, t1, Ent.row, invRow]) | (apply kG; (simp +decide only [go_sem, t1, Ent.row, invRow]; rfl); all_goals (intro hcnd; first | (exact absurd hcnd (by decide)) | skip))))
    rw [checkE, if_neg n0, if_pos n1]
  have n1 : ¬ formsE g e ≠ 0 := by simpa using t1
  rcases Bool.eq_false_or_eq_true (sensesE e != 0) with t2 | t2
  · have n2 : sensesE e ≠ 0 := by simpa using t2
    (repeat' (first | refine kA ?_ | refine kB ?_ | ((first | (refine kC (N := 30) rfl (by kernel_rfl) ?_) | refine kD ?_ | refine kE ?_ | (refine kN (hI) (kP rfl) ?_) | (refine kO (hI) (kP rfl) ?_) | (refine kN (h1) (kP rfl) ?_) | (refine kO (h1) (kP rfl) ?_) | (refine kN (h2) (kP rfl) ?_) | (refine kO (h2) (kP rfl) ?_) | refine kF ?_); simp +decide only [go_sem, t1, t2, Ent.row, invRow]) | (apply kG; (simp +decide only [go_sem, t1, t2, Ent.row, invRow]; rfl); all_goals (intro hcnd; first | (exact absurd hcnd (by decide)) | skip))))
    rw [checkE, if_neg n0, if_neg n1, if_pos n2]
  have n2 : ¬ sensesE e ≠ 0 := by simpa using t2
  rcases Bool.eq_false_or_eq_true (linksE e != 0) with t3 | t3
  · have n3 : linksE e ≠ 0 := by simpa using t3
    (repeat' (first | refine kA ?_ | refine kB ?_ | ((first | (refine kC (N := 30) rfl (by kernel_rfl) ?_) | refine kD ?_ | refine kE ?_ | (refine kN (hI) (kP rfl) ?_) | (refine kO (hI) (kP rfl) ?_) | (refine kN (h1) (kP rfl) ?_) | (refine kO (h1) (kP rfl) ?_) | (refine kN (h2) (kP rfl) ?_) | (refine kO (h2) (kP rfl) ?_) | (refine kN (h3) (kP rfl) ?_) | (refine kO (h3) (kP rfl) ?_) | refine kF ?_); simp +decide only [go_sem, t1, t2, t3, Ent.row, invRow]) | (apply kG; (simp +decide only [go_sem, t1, t2, t3, Ent.row, invRow]; rfl); all_goals (intro hcnd; first | (exact absurd hcnd (by decide)) | skip))))
    rw [checkE, if_neg n0, if_neg n1, if_neg n2, if_pos n3]
  have n3 : ¬ linksE e ≠ 0 := by simpa using t3
  (repeat' (first | refine kA ?_ | refine kB ?_ | ((first | (refine kC (N := 30) rfl (by kernel_rfl) ?_) | refine kD ?_ | refine kE ?_ | (refine kN (hI) (kP rfl) ?_) | (refine kO (hI) (kP rfl) ?_) | (refine kN (h1) (kP rfl) ?_) | (refine kO (h1) (kP rfl) ?_) | (refine kN (h2) (kP rfl) ?_) | (refine kO (h2) (kP rfl) ?_) | (refine kN (h3) (kP rfl) ?_) | (refine kO (h3) (kP rfl) ?_) | (refine kN (h4) (kP rfl) ?_) | (refine kO (h4) (kP rfl) ?_) | refine kF ?_); simp +decide only [go_sem, t1, t2, t3, Ent.row, invRow]) | (apply kG; (simp +decide only [go_sem, t1, t2, t3, Ent.row, invRow]; rfl); all_goals (intro hcnd; first | (exact absurd hcnd (by decide)) | skip))))
  rw [checkE, if_neg n0, if_neg n1, if_neg n2, if_neg n3]

set_option maxRecDepth 10000 in
set_option maxHeartbeats 8000000 in
theorem rCheck_D (g : List Phon) (e : Ent) (he : MidE e) : DCalls Tryz.prog 46 [.agg (invRow g), .agg e.row] (dv (li (checkE g e))) := by
  have h1 := rWords_D g e
  have h2 := rSenses_D e he.strs
  have h3 := rLinks_D e
  have h4 := rRefs_D e.refs
  simp only [Ent.row, invRow] at h1 h2 h3 h4
  refine dcalls (N := 27) (rs := [.tmp 4]) (by kernel_rfl) Tryz.func46 rfl rfl rfl (by simp) ?_
  cases t0 : ident e.id
  · rw [t0, if_pos rfl] at h1
    (repeat' (first | refine kA ?_ | refine kB ?_ | ((first | (refine kC (N := 27) rfl (by kernel_rfl) ?_) | refine kD ?_ | refine kE ?_ | (refine kN (h1) (kP rfl) ?_) | (refine kO (h1) (kP rfl) ?_) | refine kF ?_); simp +decide only [go_sem, Ent.row, invRow]) | (apply kG; (simp +decide only [go_sem, Ent.row, invRow]; rfl); all_goals (intro hcnd; first | (exact absurd hcnd (by decide)) | skip))))
    rw [checkE, if_pos t0]
  have n0 : ¬ ident e.id = false := by rw [t0]; decide
  rw [if_neg n0] at h1
  rcases Bool.eq_false_or_eq_true (formsE g e != 0) with t1 | t1
  · have n1 : formsE g e ≠ 0 := by simpa using t1
    (repeat' (first | refine kA ?_ | refine kB ?_ | ((first | (refine kC (N := 27) rfl (by kernel_rfl) ?_) | refine kD ?_ | refine kE ?_ | (refine kN (h1) (kP rfl) ?_) | (refine kO (h1) (kP rfl) ?_) | refine kF ?_); simp +decide only [go_sem, t1, Ent.row, invRow]) | (apply kG; (simp +decide only [go_sem, t1, Ent.row, invRow]; rfl); all_goals (intro hcnd; first | (exact absurd hcnd (by decide)) | skip))))
    rw [checkE, if_neg n0, if_pos n1]
  have n1 : ¬ formsE g e ≠ 0 := by simpa using t1
  rcases Bool.eq_false_or_eq_true (sensesE e != 0) with t2 | t2
  · have n2 : sensesE e ≠ 0 := by simpa using t2
    (repeat' (first | refine kA ?_ | refine kB ?_ | ((first | (refine kC (N := 27) rfl (by kernel_rfl) ?_) | refine kD ?_ | refine kE ?_ | (refine kN (h1) (kP rfl) ?_) | (refine kO (h1) (kP rfl) ?_) | (refine kN (h2) (kP rfl) ?_) | (refine kO (h2) (kP rfl) ?_) | refine kF ?_); simp +decide only [go_sem, t1, t2, Ent.row, invRow]) | (apply kG; (simp +decide only [go_sem, t1, t2, Ent.row, invRow]; rfl); all_goals (intro hcnd; first | (exact absurd hcnd (by decide)) | skip))))
    rw [checkE, if_neg n0, if_neg n1, if_pos n2]
  have n2 : ¬ sensesE e ≠ 0 := by simpa using t2
  rcases Bool.eq_false_or_eq_true (linksE e != 0) with t3 | t3
  · have n3 : linksE e ≠ 0 := by simpa using t3
    (repeat' (first | refine kA ?_ | refine kB ?_ | ((first | (refine kC (N := 27) rfl (by kernel_rfl) ?_) | refine kD ?_ | refine kE ?_ | (refine kN (h1) (kP rfl) ?_) | (refine kO (h1) (kP rfl) ?_) | (refine kN (h2) (kP rfl) ?_) | (refine kO (h2) (kP rfl) ?_) | (refine kN (h3) (kP rfl) ?_) | (refine kO (h3) (kP rfl) ?_) | refine kF ?_); simp +decide only [go_sem, t1, t2, t3, Ent.row, invRow]) | (apply kG; (simp +decide only [go_sem, t1, t2, t3, Ent.row, invRow]; rfl); all_goals (intro hcnd; first | (exact absurd hcnd (by decide)) | skip))))
    rw [checkE, if_neg n0, if_neg n1, if_neg n2, if_pos n3]
  have n3 : ¬ linksE e ≠ 0 := by simpa using t3
  (repeat' (first | refine kA ?_ | refine kB ?_ | ((first | (refine kC (N := 27) rfl (by kernel_rfl) ?_) | refine kD ?_ | refine kE ?_ | (refine kN (h1) (kP rfl) ?_) | (refine kO (h1) (kP rfl) ?_) | (refine kN (h2) (kP rfl) ?_) | (refine kO (h2) (kP rfl) ?_) | (refine kN (h3) (kP rfl) ?_) | (refine kO (h3) (kP rfl) ?_) | (refine kN (h4) (kP rfl) ?_) | (refine kO (h4) (kP rfl) ?_) | refine kF ?_); simp +decide only [go_sem, t1, t2, t3, Ent.row, invRow]) | (apply kG; (simp +decide only [go_sem, t1, t2, t3, Ent.row, invRow]; rfl); all_goals (intro hcnd; first | (exact absurd hcnd (by decide)) | skip))))
  rw [checkE, if_neg n0, if_neg n1, if_neg n2, if_neg n3]
end Go.Proofs.YtdmmhemfnnbddaaGreatDoor

/- Iterators of the library: Values over a list of numbers. -/
namespace Go.Proofs.YtdmmhemfnnbddaaGreatDoor.S
open Go.Dl
open Go.Dl renaming dw_seq → kA, dw_block → kB, dw_reg → kC, dw_skip → kD, dw_exit → kE, dw_ret → kF, dw_cond → kG, guardC_f → kH, guardC_t → kI, dw_drw → kJ, dw_weaken → kK, sub_kn → kL, sub_ml → kM
open Go.Dl.CallC renaming mk → kN, light → kO
open Go.Dl.LeL renaming of_eq → kP
attribute [local irreducible] DW DCalls ECalls wk IW

abbrev li (n : Int) : C := .lit (.int .i64 n)
abbrev lb (b : Bool) : C := .lit (.bool b)
abbrev dv (c : C) : D := .one (.c c)
abbrev ints (xs : List Int) : List (List C) := xs.map fun x => [li x]

set_option maxRecDepth 10000 in
set_option maxHeartbeats 2000000 in
theorem values1_S (xs : List Int) (hl : xs.length ≤ maxLen) : SeqD Tryz.prog 123 [dv (.pt [.sl 1 (ints xs)])] (xs.map fun x => [dv (li x)]) := by
  refine seqD_intro (by kernel_rfl) Tryz.func123 rfl rfl (by simp) (by have := NB_big; simp; omega) ?_
  intro n l J hJ hY
  refine iw_seq (iw_pureQ hJ ?_)
  (repeat (first | refine kA ?_ | refine kB ?_ | ((first | (refine kC (N := 16) rfl (by kernel_rfl) ?_) | refine kD ?_ | refine kE ?_); simp +decide only [go_sem])))
  refine iw_block ?_
  refine iw_loop (fun k : Nat => kn 16 [(0, dv (.lit (.func (.yield l) #[] #[]))), (5, dv (.sl 1 (ints xs))), (6, dv (li xs.length)), (7, dv (li k))] noMem) (fun k => some k) (fun k => k ≤ xs.length) (fun k => xs.length - k) 0 (fsub_kn rfl (by simp +decide only [go_sem])) rfl (by omega) ?_
  intro k hk
  refine iw_seq (iw_pureQ hJ ?_)
  (repeat (first | refine kA ?_ | refine kB ?_ | ((first | (refine kC (N := 16) rfl (by kernel_rfl) ?_) | refine kD ?_ | refine kE ?_); simp +decide only [go_sem])))
  refine iw_seq ?_
  refine iw_cond (by simp +decide only [go_sem]; rfl) ?_ ?_
  · intro hc
    have hk' : k < xs.length := by simpa using hc
    refine iw_skip ?_
    simp +decide only [go_sem]
    refine iw_seq ?_
    refine iw_block ?_
    refine iw_seq (iw_pureQ hJ ?_)
    have hx : xs[k]? = some xs[k] := List.getElem?_eq_getElem hk'
    (repeat (first | refine kA ?_ | refine kB ?_ | ((first | (refine kC (N := 16) rfl (by kernel_rfl) ?_) | refine kD ?_ | refine kE ?_); simp +decide only [go_sem, hx])))
    refine iw_seq ?_
    refine iw_region hJ hY 2 rfl (by kernel_rfl) ?_
    simp only [List.take_succ_cons, List.take_zero, List.drop_succ_cons, List.drop_zero, List.map_cons, List.map_nil]
    simp +decide only [go_sem]
    refine ⟨true, rfl, fun h => (by cases h), fun _ => ⟨_, _, _, k, [dv (li xs[k])], rfl, by simp +decide only [go_sem], rfl, by simp [hx], DLeL.of_eq (by simp +decide only [go_sem]), fun b => ?_⟩⟩
    simp +decide only [go_sem]
    cases b
    · refine iw_cond (by simp +decide only [go_sem]; rfl) (fun _ => iw_ret ?_) (fun h => by cases h)
      simp +decide only [go_sem]
      exact .inr rfl
    · refine iw_cond (by simp +decide only [go_sem]; rfl) (fun h => by cases h) (fun _ => iw_skip ?_)
      simp +decide only [go_sem]
      refine iw_pureQ hJ ?_
      have hw := wrap_succ k (by omega)
      (repeat (first | refine kA ?_ | refine kB ?_ | ((first | (refine kC (N := 16) rfl (by kernel_rfl) ?_) | refine kD ?_ | refine kE ?_); simp +decide only [go_sem, hw])))
      exact ⟨k + 1, by omega, by omega, fsub_kn rfl (by simp +decide only [go_sem]), rfl⟩
  · intro hc
    have hk' : k = xs.length := by simp at hc; omega
    refine iw_exit ?_
    simp +decide only [go_sem]
    simp [iterQ, hk']
end Go.Proofs.YtdmmhemfnnbddaaGreatDoor.S

/- Sorted lists of numbers: Values, AppendSeq, Collect, Sort, Sorted. -/
namespace Go.Proofs.YtdmmhemfnnbddaaGreatDoor.S
open Go.Dl
open Go.Dl renaming dw_seq → kA, dw_block → kB, dw_reg → kC, dw_skip → kD, dw_exit → kE, dw_ret → kF, dw_cond → kG, guardC_f → kH, guardC_t → kI, dw_drw → kJ, dw_weaken → kK, sub_kn → kL, sub_ml → kM
open Go.Dl.CallC renaming mk → kN, light → kO
open Go.Dl.LeL renaming of_eq → kP
attribute [local irreducible] DW DCalls ECalls wk IW

set_option maxRecDepth 10000 in
theorem values_D (xs : List Int) : DCalls Tryz.prog 106 [dv (.sl 1 (ints xs))] (dv (.fn 123 [.pt [.sl 1 (ints xs)]])) := by
  refine dcalls (N := 4) (rs := [.tmp 2]) (by kernel_rfl) Tryz.func106 rfl rfl rfl (by simp) ?_
  (repeat (first | refine kA ?_ | refine kB ?_ | ((first | (refine kC (N := 4) rfl (by kernel_rfl) ?_) | refine kD ?_ | refine kE ?_); simp +decide only [go_sem])))
  refine dw_frz1 1 [.sl 1 (ints xs)] (by simp) (by simp +decide only [go_sem]) ?_
  refine kF ?_; simp +decide only [go_sem]

theorem iRows_tr (r : Ren) (xs : List Int) : Dl.Rows.tr r (iRows xs) = iRows xs := by
  simp [iRows, Dl.Rows.tr, T.trAll, T.tr]
theorem iRows_sz (xs : List Int) : RowsSz 1 (iRows xs) := fun r hr => by
  obtain ⟨x, _, rfl⟩ := List.mem_map.1 hr; rfl
theorem iRows_len (xs : List Int) : (iRows xs).length = xs.length := by simp [iRows]
theorem iRows_app (xs ys : List Int) : iRows (xs ++ ys) = iRows xs ++ iRows ys := by simp [iRows]
attribute [go_sem] iRows_tr

set_option maxRecDepth 10000 in
set_option maxHeartbeats 2000000 in
theorem appendSeq_E (xs : List Int) (hl : xs.length ≤ 1000000) : ECalls Tryz.prog 131 [dv (.lit (.slice none 0 0)), dv (.fn 123 [.pt [.sl 1 (ints xs)]])] noMem
    (fun r H' => ∃ j, r = .one (.ba 0 1 0 xs.length (xs.length + j)) ∧ H' = ml [(0, iRows xs ++ anyRows j 1)]) := by
  have hmax : maxLen = 9223372036854775807 := rfl
  refine ecalls (N := 13) (rs := [.tmp 4]) (by kernel_rfl) Tryz.func131 rfl rfl rfl (by simp) ?_
  (repeat (first | refine kA ?_ | refine kB ?_ | ((first | (refine kC (N := 13) rfl (by kernel_rfl) ?_) | refine kD ?_ | refine kE ?_); simp +decide only [go_sem])))
  refine kK (sub_nilAt 2 1 (by simp +decide only [go_sem])) ?_
  refine kK (sub_zeroAt (i := 0) (j := 0) 2 1000 1 1 (rows := [[.ex 1 []]]) (r := [.ex 1 []]) (by simp +decide only [go_sem]) (by decide) rfl rfl) ?_
  refine dw_rfS 13 oneMid [2] (fun k (j : Nat) => kn 13 [(2, .one (.bx 2 1 0 0))] (ml [(2, [[.ba 1000 1 0 k (k + j)]]), (1000, iRows (xs.take k) ++ anyRows j 1)])) (fun k j => True) 0 trivial rfl rfl (by decide) (by simp +decide only [go_sem]; exact ⟨rfl, rfl⟩) (values1_S xs (by omega))
    (kM rfl (by simp +decide only [go_sem]) (by simp +decide only [go_sem])) (fun _ _ => rfl) (by intro ds h; obtain ⟨c, _, rfl⟩ := List.mem_map.1 h; rfl) ?_ ?_
  · intro k ds j hk _
    simp only [List.getElem?_map, Option.map_eq_some_iff] at hk
    obtain ⟨x, hx, rfl⟩ := hk
    have hkl : k < xs.length := (List.getElem?_eq_some_iff.1 hx).1
    have htk : (xs.take k).length = k := by simp; omega
    (repeat (first | refine kA ?_ | refine kB ?_ | ((first | (refine kC (N := 13) rfl (by kernel_rfl) ?_) | refine kD ?_ | refine kE ?_); simp +decide only [go_sem])))
    refine StepC.mk (Step.appendList (n := 1000) (rows := iRows (xs.take k)) (ys := iRows [x]) (j := j) (sz := 1) (by_ := 8) rfl rfl (by simp +decide only [go_sem]) (by simp +decide only [go_sem, iRows_len, htk]) (by simp +decide only [go_sem]) (iRows_sz _) (.ex [[li x]]) (by simp [iRows]; omega) ?_)
    intro j'
    simp +decide only [go_sem, iRows_len, htk]
    (repeat (first | refine kA ?_ | refine kB ?_ | ((first | (refine kC (N := 13) rfl (by kernel_rfl) ?_) | refine kD ?_ | refine kE ?_); simp +decide only [go_sem])))
    refine ⟨_, sub_mv 11 1000 (by decide), ?_⟩
    refine ⟨j', kM rfl (by simp +decide only [go_sem]) (by simp +decide only [go_sem]; rw [take_snoc hx, iRows_app, List.append_assoc])⟩
  · intro j _
    rw [List.length_map, List.take_length]
    (repeat (first | refine kA ?_ | refine kB ?_ | ((first | (refine kC (N := 13) rfl (by kernel_rfl) ?_) | refine kD ?_ | refine kE ?_); simp +decide only [go_sem])))
    refine kK (DS.Sub.trans (sub_mv 1000 0 (by decide)) (kM (N := 13) (sls := [(4, .one (.ba 0 1 0 xs.length (xs.length + j)))]) (bxs := [(0, iRows xs ++ anyRows j 1)]) rfl (by simp +decide only [go_sem]) (by simp +decide only [go_sem]))) ?_
    refine kF ?_; simp +decide only [go_sem]
    exact ⟨j, rfl, rfl⟩

set_option maxRecDepth 10000 in
set_option maxHeartbeats 2000000 in
theorem collect_E (xs : List Int) (hl : xs.length ≤ 1000000) : ECalls Tryz.prog 121 [dv (.fn 123 [.pt [.sl 1 (ints xs)]])] noMem
    (fun r H' => ∃ j, r = .one (.ba 0 1 0 xs.length (xs.length + j)) ∧ H' = ml [(0, iRows xs ++ anyRows j 1)]) := by
  refine ecalls (N := 5) (rs := [.tmp 2]) (by kernel_rfl) Tryz.func121 rfl rfl rfl (by simp) ?_
  (repeat (first | refine kA ?_ | refine kB ?_ | ((first | (refine kC (N := 5) rfl (by kernel_rfl) ?_) | refine kD ?_ | refine kE ?_); simp +decide only [go_sem])))
  refine CallC.eff [] (appendSeq_E xs hl) rfl (DLeL.of_eq (by simp +decide only [go_sem])) (fun k r h => by cases h) (by constructor <;> simp) ?_
  rintro r H' ⟨j, rfl, rfl⟩
  simp +decide only [go_sem]
  refine kK (DS.Sub.trans (sub_mv 4 0 (by decide)) (kM (N := 5) (sls := [(2, .one (.ba 0 1 0 xs.length (xs.length + j)))]) (bxs := [(0, iRows xs ++ anyRows j 1)]) rfl (by simp +decide only [go_sem]) (by simp +decide only [go_sem, callMemAft]))) ?_
  refine kF ?_; simp +decide only [go_sem]
  exact ⟨j, rfl, rfl⟩

theorem sortI_E (q cap : Nat) (H : Mem) (xs : List Int) (js : Dl.Rows) (hq : H q = some (iRows xs ++ js)) (hjs : RowsSz 1 js) (hl : xs.length < 4611686018427387904) :
    ECalls Tryz.prog 122 [.one (.ba q 1 0 xs.length cap)] H (fun r H' => r = .tup [] ∧ H' = fun k => if k = q then some (iRows (xs.mergeSort fun x y => decide (x ≤ y)) ++ js) else H k) :=
  sort_E (by kernel_rfl) (AnyM.slices_Sort_int sortA) (AnyM.slices_Sort_int_none sortA) q cap H xs js hq hjs hl

abbrev srt (xs : List Int) : List Int := xs.mergeSort fun x y => decide (x ≤ y)
theorem srt_len (xs : List Int) : (srt xs).length = xs.length := List.length_mergeSort _

set_option maxRecDepth 10000 in
set_option maxHeartbeats 2000000 in
theorem sortedS_E (xs : List Int) (hl : xs.length ≤ 1000000) : ECalls Tryz.prog 105 [dv (.fn 123 [.pt [.sl 1 (ints xs)]])] noMem
    (fun r H' => ∃ j, r = .one (.ba 0 1 0 xs.length (xs.length + j)) ∧ H' = ml [(0, iRows (srt xs) ++ anyRows j 1)]) := by
  refine ecalls (N := 9) (rs := [.tmp 2]) (by kernel_rfl) Tryz.func105 rfl rfl rfl (by simp) ?_
  (repeat (first | refine kA ?_ | refine kB ?_ | ((first | (refine kC (N := 9) rfl (by kernel_rfl) ?_) | refine kD ?_ | refine kE ?_); simp +decide only [go_sem])))
  refine CallC.eff [] (collect_E xs hl) rfl (DLeL.of_eq (by simp +decide only [go_sem])) (fun k r h => by cases h) (by constructor <;> simp) ?_
  rintro r H' ⟨j, rfl, rfl⟩
  simp +decide only [go_sem]
  (repeat (first | refine kA ?_ | refine kB ?_ | ((first | (refine kC (N := 9) rfl (by kernel_rfl) ?_) | refine kD ?_ | refine kE ?_); simp +decide only [go_sem])))
  refine CallC.eff [5] (sortI_E (5 + NB) (xs.length + j) (fun k => if k = 5 + NB then some (iRows xs ++ anyRows j 1) else none) xs (anyRows j 1) (by simp) (anyRows_sz j 1) (by omega)) rfl (DLeL.of_eq (by simp +decide only [go_sem])) (fun k r h => ?_) (by constructor <;> simp [mid]) ?_
  · by_cases hk : k = 5 + NB
    · subst hk; simp +decide only [go_sem] at h; subst h; simp +decide only [go_sem, callMemAft, callMem]
    · simp +decide only [go_sem, hk] at h
  rintro r H' ⟨rfl, rfl⟩
  simp +decide only [go_sem]
  (repeat (first | refine kA ?_ | refine kB ?_ | ((first | (refine kC (N := 9) rfl (by kernel_rfl) ?_) | refine kD ?_ | refine kE ?_); simp +decide only [go_sem])))
  refine kK (DS.Sub.trans (sub_mv 5 0 (by decide)) (kM (N := 9) (sls := [(2, .one (.ba 0 1 0 xs.length (xs.length + j)))]) (bxs := [(0, iRows (srt xs) ++ anyRows j 1)]) rfl (by simp +decide only [go_sem]) (by simp +decide only [go_sem, callMemAft]))) ?_
  refine kF ?_; simp +decide only [go_sem]
  exact ⟨j, rfl, rfl⟩
end Go.Proofs.YtdmmhemfnnbddaaGreatDoor.S

namespace Go.Proofs.YtdmmhemfnnbddaaGreatDoor
abbrev kpm15 : List (Nat × Go.Dl.Mode) := [(0, .light), (1, .light), (2, .light), (3, .light), (4, .light), (5, .light), (6, .light), (7, .light), (8, .light), (9, .light)]
end Go.Proofs.YtdmmhemfnnbddaaGreatDoor
/- Lists of numbers without neighbours that are alike: Compact. -/
namespace Go.Proofs.YtdmmhemfnnbddaaGreatDoor.S
open Go.Dl
open Go.Dl renaming dw_seq → kA, dw_block → kB, dw_reg → kC, dw_skip → kD, dw_exit → kE, dw_ret → kF, dw_cond → kG, guardC_f → kH, guardC_t → kI, dw_drw → kJ, dw_weaken → kK, sub_kn → kL, sub_ml → kM
open Go.Dl.CallC renaming mk → kN, light → kO
open Go.Dl.LeL renaming of_eq → kP
attribute [local irreducible] DW DCalls ECalls wk IW

def cptF (p : Option Int) : List Int → List Int
  | [] => []
  | x :: r => if p = some x then cptF (some x) r else x :: cptF (some x) r
def cpt (xs : List Int) : List Int := cptF none xs

theorem cptF_snoc (x : Int) : ∀ (l : List Int) (p : Option Int), cptF p (l ++ [x]) = cptF p l ++ if (l.getLast?.or p) = some x then [] else [x]
  | [], p => by by_cases h : p = some x <;> simp [cptF, h]
  | y :: l, p => by
    simp only [List.cons_append, cptF]
    have hl : ((y :: l).getLast?.or p) = (l.getLast?.or (some y)) := by cases l <;> simp [List.getLast?_cons]
    rw [hl]
    split
    · exact cptF_snoc x l (some y)
    · rw [cptF_snoc x l (some y)]; rfl

theorem cpt_take {xs : List Int} {k : Nat} {x y : Int} (hx : xs[k + 1]? = some x) (hy : xs[k]? = some y) : cpt (xs.take (k + 2)) = cpt (xs.take (k + 1)) ++ if y = x then [] else [x] := by
  have h1 : xs.take (k + 2) = xs.take (k + 1) ++ [x] := take_snoc hx
  have h2 : (xs.take (k + 1)).getLast? = some y := by rw [take_snoc hy]; simp
  rw [cpt, h1, cptF_snoc, h2]; simp [cpt]

theorem cptF_len : ∀ (l : List Int) (p : Option Int), (cptF p l).length ≤ l.length
  | [], p => by simp [cptF]
  | x :: l, p => by
    simp only [cptF]
    split
    · have := cptF_len l (some x); simp; omega
    · have := cptF_len l (some x); simp; omega

theorem cpt_all {xs : List Int} {k : Nat} (h : ∀ i x y, i + 1 < k → xs[i]? = some x → xs[i + 1]? = some y → x ≠ y) (hk : k ≤ xs.length) : cpt (xs.take k) = xs.take k := by
  induction k with
  | zero => simp [cpt, cptF]
  | succ k ih =>
    have ih' := ih (fun i x y hi => h i x y (by omega)) (by omega)
    cases k with
    | zero =>
      cases xs with
      | nil => simp [cpt, cptF]
      | cons x xs => simp [cpt, cptF]
    | succ k =>
      have h1 : xs[k + 1]? = some xs[k + 1] := List.getElem?_eq_getElem (by omega)
      have h0 : xs[k]? = some xs[k] := List.getElem?_eq_getElem (by omega)
      rw [cpt_take h1 h0, if_neg (h k _ _ (by omega) h0 h1), ih', ← take_snoc h1]

theorem iRows_at {zs : List Int} {js : Dl.Rows} {i : Nat} {x : Int} (h : zs[i]? = some x) : (iRows zs ++ js)[i]? = some [T.c (li x)] := by
  rw [List.getElem?_append_left (by rw [iRows_len]; exact (List.getElem?_eq_some_iff.1 h).1)]; exact iRows_get h
theorem iRows_set {zs : List Int} {js : Dl.Rows} {i : Nat} {x : Int} (h : i < zs.length) : (iRows zs ++ js).set i [T.c (li x)] = iRows (zs.set i x) ++ js := by
  rw [List.set_append_left _ _ (by rw [iRows_len]; exact h)]
  simp [iRows, List.map_set]

set_option maxRecDepth 10000 in
set_option maxHeartbeats 2000000 in
theorem compact_E (xs : List Int) (j q : Nat) (hq : NB ≤ q) (hl : xs.length ≤ 1000000) : ECalls Tryz.prog 104 [.one (.ba q 1 0 xs.length (xs.length + j))] (ml [(q, iRows xs ++ anyRows j 1)])
    (fun r H' => ∃ j', r = .one (.ba q 1 0 (cpt xs).length (xs.length + j)) ∧ H' = ml [(q, iRows (cpt xs) ++ anyRows j' 1)]) := by
  have hmax : maxLen = 9223372036854775807 := rfl
  have h64 : ∀ z : Int, -1 ≤ z → z ≤ 10000000 → IntKind.wrap .i64 z = z := fun z h1 h2 => wrap_i64 (by omega) (by omega)
  refine ecalls (N := 61) (rs := [.tmp 2]) (by kernel_rfl) Tryz.func104 rfl rfl rfl (by simp) ?_
  (repeat (first | refine kA ?_ | refine kB ?_ | ((first | (refine kC (N := 61) rfl (by kernel_rfl) ?_) | (apply kJ (id := 6) (N := 61) kpm15; kernel_rfl; rfl; kernel_rfl; (repeat (first | exact Picks.nil | (apply Picks.cons; rfl)))) | (apply kJ (id := 11) (N := 61) kpm15; kernel_rfl; rfl; kernel_rfl; (repeat (first | exact Picks.nil | (apply Picks.cons; rfl)))) | refine kD ?_ | refine kE ?_); simp +decide only [go_sem])))
  apply kG; (simp +decide only [go_sem]; rfl)
  · intro hc
    have hs : cpt xs = xs := by
      have := cpt_all (xs := xs) (k := xs.length) (fun i x y hi => by simp at hc; omega) (Nat.le_refl _)
      rwa [List.take_length] at this
    (repeat (first | refine kA ?_ | refine kB ?_ | ((first | (refine kC (N := 61) rfl (by kernel_rfl) ?_) | (apply kJ (id := 6) (N := 61) kpm15; kernel_rfl; rfl; kernel_rfl; (repeat (first | exact Picks.nil | (apply Picks.cons; rfl)))) | (apply kJ (id := 11) (N := 61) kpm15; kernel_rfl; rfl; kernel_rfl; (repeat (first | exact Picks.nil | (apply Picks.cons; rfl)))) | refine kD ?_ | refine kE ?_); simp +decide only [go_sem])))
    refine kK (kM (N := 61) (sls := [(2, .one (.ba q 1 0 xs.length (xs.length + j)))]) (bxs := [(q, iRows xs ++ anyRows j 1)]) rfl (by simp +decide only [go_sem]) (by simp +decide only [go_sem])) ?_
    refine kF ?_; simp +decide only [go_sem]
    exact ⟨j, by rw [hs], by rw [hs]; rfl⟩
  · intro hc
    have hc2 : 2 ≤ xs.length := by simp at hc; omega
    (repeat (first | refine kA ?_ | refine kB ?_ | ((first | (refine kC (N := 61) rfl (by kernel_rfl) ?_) | (apply kJ (id := 6) (N := 61) kpm15; kernel_rfl; rfl; kernel_rfl; (repeat (first | exact Picks.nil | (apply Picks.cons; rfl)))) | (apply kJ (id := 11) (N := 61) kpm15; kernel_rfl; rfl; kernel_rfl; (repeat (first | exact Picks.nil | (apply Picks.cons; rfl)))) | refine kD ?_ | refine kE ?_); simp +decide only [go_sem])))
    refine dw_loop_fam (fun m : Nat => kn 61 [(0, .one (.ba q 1 0 xs.length (xs.length + j))), (3, dv (li m))] (ml [(q, iRows xs ++ anyRows j 1)]))
      (fun m => 1 ≤ m ∧ m ≤ xs.length ∧ ∀ i x y, i + 1 < m → xs[i]? = some x → xs[i + 1]? = some y → x ≠ y) (fun k => xs.length - k) 1 (kM rfl (by simp +decide only [go_sem]) (by simp +decide only [go_sem])) ⟨by omega, by omega, fun i x y hi => by omega⟩ ?_
    rintro m ⟨hm1, hm, hall⟩
    (repeat (first | refine kA ?_ | refine kB ?_ | ((first | (refine kC (N := 61) rfl (by kernel_rfl) ?_) | (apply kJ (id := 6) (N := 61) kpm15; kernel_rfl; rfl; kernel_rfl; (repeat (first | exact Picks.nil | (apply Picks.cons; rfl)))) | (apply kJ (id := 11) (N := 61) kpm15; kernel_rfl; rfl; kernel_rfl; (repeat (first | exact Picks.nil | (apply Picks.cons; rfl)))) | refine kD ?_ | refine kE ?_); simp +decide only [go_sem])))
    apply kG; (simp +decide only [go_sem]; rfl)
    · intro h1
      have hk' : m < xs.length := by simp at h1; omega
      have hx : xs[m]? = some xs[m] := List.getElem?_eq_getElem hk'
      have hkl : m - 1 < xs.length := by omega
      have hy : xs[m - 1]? = some xs[m - 1] := List.getElem?_eq_getElem hkl
      have hw : IntKind.wrap .i64 ((m : Int) - 1) = ((m - 1 : Nat) : Int) := by rw [h64 _ (by omega) (by omega)]; omega
      have hRx := iRows_at (js := anyRows j 1) hx
      have hRy := iRows_at (js := anyRows j 1) hy
      (repeat (first | refine kA ?_ | refine kB ?_ | ((first | (refine kC (N := 61) rfl (by kernel_rfl) ?_) | (apply kJ (id := 6) (N := 61) kpm15; kernel_rfl; rfl; kernel_rfl; (repeat (first | exact Picks.nil | (apply Picks.cons; rfl)))) | (apply kJ (id := 11) (N := 61) kpm15; kernel_rfl; rfl; kernel_rfl; (repeat (first | exact Picks.nil | (apply Picks.cons; rfl)))) | refine kD ?_ | refine kE ?_); simp +decide only [go_sem, hw, hRx, hRy, hk', hkl])))
      apply kG; (simp +decide only [go_sem]; rfl)
      · intro h2
        have hle : xs.length ≤ xs.length + j := by omega
        (repeat (first | refine kA ?_ | refine kB ?_ | ((first | (refine kC (N := 61) rfl (by kernel_rfl) ?_) | (apply kJ (id := 6) (N := 61) kpm15; kernel_rfl; rfl; kernel_rfl; (repeat (first | exact Picks.nil | (apply Picks.cons; rfl)))) | (apply kJ (id := 11) (N := 61) kpm15; kernel_rfl; rfl; kernel_rfl; (repeat (first | exact Picks.nil | (apply Picks.cons; rfl)))) | refine kD ?_ | refine kE ?_); simp +decide only [go_sem, hm, hle])))
        have hxy : xs[m - 1] = xs[m] := by simp at h2; exact h2.symm
        have hc1 : cpt (xs.take (m + 1)) = xs.take m := by
          obtain ⟨k, rfl⟩ : ∃ k, m = k + 1 := ⟨m - 1, by omega⟩
          rw [cpt_take hx hy, if_pos (by simpa using hxy), List.append_nil, cpt_all hall hm]
        refine dw_loop_fam (fun d : Nat => kn 61 [(0, .one (.ba q 1 0 xs.length (xs.length + j))), (3, dv (li (cpt (xs.take (m + d))).length)), (4, .one (.ba q 1 m (xs.length - m) (xs.length + j - m))), (5, dv (li d))] (ml [(q, iRows (cpt (xs.take (m + d)) ++ xs.drop (cpt (xs.take (m + d))).length) ++ anyRows j 1)]))
          (fun d => 1 ≤ d ∧ m + d ≤ xs.length ∧ (cpt (xs.take (m + d))).length < m + d) (fun d => xs.length - d) 1 (kM rfl (by simp +decide only [go_sem, hc1, List.length_take, Nat.min_eq_left hm]) (by simp +decide only [go_sem, hc1, List.length_take, Nat.min_eq_left hm, List.take_append_drop])) ⟨by omega, by omega, by rw [hc1]; simp; omega⟩ ?_
        rintro d ⟨hd1, hd, hdl⟩
        obtain ⟨C, hC⟩ : ∃ C, C = cpt (xs.take (m + d)) := ⟨_, rfl⟩
        rw [← hC] at hdl ⊢
        (repeat (first | refine kA ?_ | refine kB ?_ | ((first | (refine kC (N := 61) rfl (by kernel_rfl) ?_) | (apply kJ (id := 6) (N := 61) kpm15; kernel_rfl; rfl; kernel_rfl; (repeat (first | exact Picks.nil | (apply Picks.cons; rfl)))) | (apply kJ (id := 11) (N := 61) kpm15; kernel_rfl; rfl; kernel_rfl; (repeat (first | exact Picks.nil | (apply Picks.cons; rfl)))) | refine kD ?_ | refine kE ?_); simp +decide only [go_sem])))
        apply kG; (simp +decide only [go_sem]; rfl)
        · intro h3
          have hmd : m + d < xs.length := by simp at h3; omega
          have hZ : ∀ i (h : i < xs.length), C.length ≤ i → (iRows (C ++ xs.drop C.length) ++ anyRows j 1)[i]? = some [T.c (li xs[i])] := fun i h hi => iRows_at (by
            rw [List.getElem?_append_right hi, List.getElem?_drop, show C.length + (i - C.length) = i by omega, List.getElem?_eq_getElem h])
          have hm1d : m + d - 1 < xs.length := by omega
          have hZ1 := hZ (m + d) hmd (by omega)
          have hZ2 := hZ (m + d - 1) hm1d (by omega)
          have hw2 : IntKind.wrap .i64 ((d : Int) - 1) = ((d - 1 : Nat) : Int) := by rw [h64 _ (by omega) (by omega)]; omega
          have hw3 : IntKind.wrap .i64 ((d : Int) + 1) = ((d + 1 : Nat) : Int) := by rw [h64 _ (by omega) (by omega)]; omega
          have hw4 : IntKind.wrap .i64 ((C.length : Int) + 1) = ((C.length + 1 : Nat) : Int) := by rw [h64 _ (by omega) (by omega)]; omega
          have hdm : m + (d - 1) = m + d - 1 := by omega
          have hdn : d < xs.length - m := by omega
          have hdn1 : d - 1 < xs.length - m := by omega
          have hCn : C.length < xs.length := by omega
          (repeat (first | refine kA ?_ | refine kB ?_ | ((first | (refine kC (N := 61) rfl (by kernel_rfl) ?_) | (apply kJ (id := 6) (N := 61) kpm15; kernel_rfl; rfl; kernel_rfl; (repeat (first | exact Picks.nil | (apply Picks.cons; rfl)))) | (apply kJ (id := 11) (N := 61) kpm15; kernel_rfl; rfl; kernel_rfl; (repeat (first | exact Picks.nil | (apply Picks.cons; rfl)))) | refine kD ?_ | refine kE ?_); simp +decide only [go_sem, hw2, hdm, hZ1, hZ2, hdn, hdn1])))
          have hstep : cpt (xs.take (m + (d + 1))) = C ++ if xs[m + d - 1] = xs[m + d] then [] else [xs[m + d]] := by
            rw [hC, show m + (d + 1) = (m + d - 1) + 2 by omega]
            have e1 : (m + d - 1) + 1 = m + d := by omega
            rw [cpt_take (k := m + d - 1) (x := xs[m + d]) (y := xs[m + d - 1]) (by rw [e1]; exact List.getElem?_eq_getElem hmd) (List.getElem?_eq_getElem hm1d), e1]
          apply kG; (simp +decide only [go_sem]; rfl)
          · intro h4
            have hne : ¬ xs[m + d - 1] = xs[m + d] := by simp at h4; exact fun e => h4 e.symm
            rw [if_neg hne] at hstep
            have hZC : (iRows (C ++ xs.drop C.length) ++ anyRows j 1)[C.length]? = some [T.c (li xs[C.length])] := hZ _ hCn (Nat.le_refl _)
            have hset : (iRows (C ++ xs.drop C.length) ++ anyRows j 1).set C.length [T.c (li xs[m + d])] = iRows ((C ++ [xs[m + d]]) ++ xs.drop (C.length + 1)) ++ anyRows j 1 := by
              rw [iRows_set (by simp; omega)]
              congr 2
              rw [List.set_append_right _ _ (Nat.le_refl _), List.drop_eq_getElem_cons hCn, Nat.sub_self, List.set_cons_zero, List.append_assoc]; rfl
            (repeat (first | refine kA ?_ | refine kB ?_ | ((first | (refine kC (N := 61) rfl (by kernel_rfl) ?_) | (apply kJ (id := 6) (N := 61) kpm15; kernel_rfl; rfl; kernel_rfl; (repeat (first | exact Picks.nil | (apply Picks.cons; rfl)))) | (apply kJ (id := 11) (N := 61) kpm15; kernel_rfl; rfl; kernel_rfl; (repeat (first | exact Picks.nil | (apply Picks.cons; rfl)))) | refine kD ?_ | refine kE ?_); simp +decide only [go_sem, hw2, hdm, hZ1, hZ2, hdn, hdn1, hZC, hset, hw3, hw4, hCn])))
            refine ⟨d + 1, ⟨by omega, by omega, by rw [hstep]; simp; omega⟩, by omega, kM rfl (by simp +decide only [go_sem, hstep, List.length_append]) (by simp +decide only [go_sem, hstep, List.length_append])⟩
          · intro h4
            have heq : xs[m + d - 1] = xs[m + d] := by simp at h4; exact h4.symm
            rw [if_pos heq, List.append_nil] at hstep
            refine kD ?_
            simp +decide only [go_sem]
            (repeat (first | refine kA ?_ | refine kB ?_ | ((first | (refine kC (N := 61) rfl (by kernel_rfl) ?_) | (apply kJ (id := 6) (N := 61) kpm15; kernel_rfl; rfl; kernel_rfl; (repeat (first | exact Picks.nil | (apply Picks.cons; rfl)))) | (apply kJ (id := 11) (N := 61) kpm15; kernel_rfl; rfl; kernel_rfl; (repeat (first | exact Picks.nil | (apply Picks.cons; rfl)))) | refine kD ?_ | refine kE ?_); simp +decide only [go_sem, hw3])))
            refine ⟨d + 1, ⟨by omega, by omega, by rw [hstep]; omega⟩, by omega, kM rfl (by simp +decide only [go_sem, hstep]) (by simp +decide only [go_sem, hstep])⟩
        · intro h3
          have hmd : m + d = xs.length := by simp at h3; omega
          rw [hmd, List.take_length] at hC
          have hCn : C.length ≤ xs.length := by omega
          have hCj : C.length ≤ xs.length + j := by omega
          have hCj0 := Nat.zero_le C.length
          (repeat (first | refine kA ?_ | refine kB ?_ | ((first | (refine kC (N := 61) rfl (by kernel_rfl) ?_) | (apply kJ (id := 6) (N := 61) kpm15; kernel_rfl; rfl; kernel_rfl; (repeat (first | exact Picks.nil | (apply Picks.cons; rfl)))) | (apply kJ (id := 11) (N := 61) kpm15; kernel_rfl; rfl; kernel_rfl; (repeat (first | exact Picks.nil | (apply Picks.cons; rfl)))) | refine kD ?_ | refine kE ?_); simp +decide only [go_sem, hCn, hle])))
          have hrl : (iRows (C ++ xs.drop C.length)).length = xs.length := by rw [iRows_len]; simp; omega
          refine StepC.mk (Step.clear (n := q) (rows := iRows (C ++ xs.drop C.length) ++ anyRows j 1) (i := C.length) (len := xs.length - C.length) (cap := xs.length + j - C.length) (sz := 1) (by_ := 8) rfl (by simp +decide only [go_sem]) (by simp +decide only [go_sem]) (by simp +decide only [go_sem]) (by rw [List.length_append, hrl]; omega)
            (fun r hr => (List.mem_append.1 hr).elim (iRows_sz _ r) (anyRows_sz j 1 r)) ?_)
          have hrows : (iRows (C ++ xs.drop C.length) ++ anyRows j 1).take C.length ++ (anyRows (xs.length - C.length) 1 ++ (iRows (C ++ xs.drop C.length) ++ anyRows j 1).drop (C.length + (xs.length - C.length))) = iRows C ++ anyRows (xs.length - C.length + j) 1 := by
            rw [show C.length + (xs.length - C.length) = (iRows (C ++ xs.drop C.length)).length by rw [hrl]; omega, List.drop_left, iRows_app, List.append_assoc, List.take_left' (iRows_len C)]
            congr 1
            simp [anyRows, List.replicate_append_replicate]
          rw [hrows]
          simp +decide only [go_sem]
          (repeat (first | refine kA ?_ | refine kB ?_ | ((first | (refine kC (N := 61) rfl (by kernel_rfl) ?_) | (apply kJ (id := 6) (N := 61) kpm15; kernel_rfl; rfl; kernel_rfl; (repeat (first | exact Picks.nil | (apply Picks.cons; rfl)))) | (apply kJ (id := 11) (N := 61) kpm15; kernel_rfl; rfl; kernel_rfl; (repeat (first | exact Picks.nil | (apply Picks.cons; rfl)))) | refine kD ?_ | refine kE ?_); simp +decide only [go_sem, hCj, hCj0, Nat.sub_zero])))
          refine kK (kM (N := 61) (sls := [(2, .one (.ba q 1 0 C.length (xs.length + j)))]) (bxs := [(q, iRows C ++ anyRows (xs.length - C.length + j) 1)]) rfl (by simp +decide only [go_sem]) (by simp +decide only [go_sem])) ?_
          refine kF ?_; simp +decide only [go_sem]
          exact ⟨_, by rw [hC], by rw [hC]; rfl⟩
      · intro h2
        have hne : ¬ xs[m - 1] = xs[m] := by simp at h2; exact fun e => h2 e.symm
        have hw3 : IntKind.wrap .i64 ((m : Int) + 1) = ((m + 1 : Nat) : Int) := by rw [h64 _ (by omega) (by omega)]; omega
        refine kD ?_
        simp +decide only [go_sem]
        (repeat (first | refine kA ?_ | refine kB ?_ | ((first | (refine kC (N := 61) rfl (by kernel_rfl) ?_) | (apply kJ (id := 6) (N := 61) kpm15; kernel_rfl; rfl; kernel_rfl; (repeat (first | exact Picks.nil | (apply Picks.cons; rfl)))) | (apply kJ (id := 11) (N := 61) kpm15; kernel_rfl; rfl; kernel_rfl; (repeat (first | exact Picks.nil | (apply Picks.cons; rfl)))) | refine kD ?_ | refine kE ?_); simp +decide only [go_sem, hw3])))
        refine ⟨m + 1, ⟨by omega, by omega, fun i x y hi g1 g2 => ?_⟩, by omega, kM rfl (by simp +decide only [go_sem]) (by simp +decide only [go_sem])⟩
        rcases Nat.lt_or_ge (i + 1) m with hlt | hge
        · exact hall i x y hlt g1 g2
        · obtain rfl : i = m - 1 := by omega
          rw [hy] at g1; rw [show m - 1 + 1 = m by omega, hx] at g2
          injection g1 with g1; injection g2 with g2
          rw [← g1, ← g2]; exact hne
    · intro h1
      have hmn : m = xs.length := by simp at h1; omega
      have hs : cpt xs = xs := by
        have := cpt_all hall hm
        rwa [hmn, List.take_length] at this
      (repeat (first | refine kA ?_ | refine kB ?_ | ((first | (refine kC (N := 61) rfl (by kernel_rfl) ?_) | (apply kJ (id := 6) (N := 61) kpm15; kernel_rfl; rfl; kernel_rfl; (repeat (first | exact Picks.nil | (apply Picks.cons; rfl)))) | (apply kJ (id := 11) (N := 61) kpm15; kernel_rfl; rfl; kernel_rfl; (repeat (first | exact Picks.nil | (apply Picks.cons; rfl)))) | refine kD ?_ | refine kE ?_); simp +decide only [go_sem])))
      refine kK (kM (N := 61) (sls := [(2, .one (.ba q 1 0 xs.length (xs.length + j)))]) (bxs := [(q, iRows xs ++ anyRows j 1)]) rfl (by simp +decide only [go_sem]) (by simp +decide only [go_sem])) ?_
      refine kF ?_; simp +decide only [go_sem]
      exact ⟨j, by rw [hs], by rw [hs]; rfl⟩
end Go.Proofs.YtdmmhemfnnbddaaGreatDoor.S

/- num.Sorted. -/
namespace Go.Proofs.YtdmmhemfnnbddaaGreatDoor.S
open Go.Dl
open Go.Dl renaming dw_seq → kA, dw_block → kB, dw_reg → kC, dw_skip → kD, dw_exit → kE, dw_ret → kF, dw_cond → kG, guardC_f → kH, guardC_t → kI, dw_drw → kJ, dw_weaken → kK, sub_kn → kL, sub_ml → kM
open Go.Dl.CallC renaming mk → kN, light → kO
open Go.Dl.LeL renaming of_eq → kP
attribute [local irreducible] DW DCalls ECalls wk IW

def usort (xs : List Int) : List Int := cpt (srt xs)

theorem usort_len (xs : List Int) : (usort xs).length ≤ xs.length := by
  have := cptF_len (srt xs) none
  rw [srt_len] at this; exact this

theorem ints_c (xs : List Int) : (ints xs).map (List.map T.c) = iRows xs := by simp [iRows]

set_option maxRecDepth 10000 in
set_option maxHeartbeats 2000000 in
theorem sorted_D (xs : List Int) (hl : xs.length ≤ 1000000) : DCalls Tryz.prog 79 [dv (.sl 1 (ints xs))] (dv (.sl 1 (ints (usort xs)))) := by
  refine dcalls (N := 7) (rs := [.tmp 2]) (by kernel_rfl) Tryz.func79 rfl rfl rfl (by simp) ?_
  (repeat (first | refine kA ?_ | refine kB ?_ | ((first | (refine kC (N := 7) rfl (by kernel_rfl) ?_) | refine kD ?_ | refine kE ?_); simp +decide only [go_sem])))
  (first | (refine kN (values_D xs) (kP rfl) ?_) | (refine kO (values_D xs) (kP rfl) ?_)); simp +decide only [go_sem]
  refine CallC.eff [] (sortedS_E xs hl) rfl (DLeL.of_eq (by simp +decide only [go_sem])) (fun k r h => by cases h) (by constructor <;> simp) ?_
  rintro r H' ⟨j, rfl, rfl⟩
  simp +decide only [go_sem]
  have hsl := srt_len xs
  refine CallC.eff [5] (compact_E (srt xs) j (5 + NB) (Nat.le_add_left _ _) (by omega)) rfl (DLeL.of_eq (by simp +decide only [go_sem, hsl])) (fun k r h => ?_) (by constructor <;> simp [mid]) ?_
  · by_cases hk : k = 5 + NB
    · subst hk; simp +decide only [go_sem] at h; subst h; simp +decide only [go_sem, callMemAft, callMem]
    · simp +decide only [go_sem, hk] at h
  rintro r H' ⟨j', rfl, rfl⟩
  simp +decide only [go_sem]
  (repeat (first | refine kA ?_ | refine kB ?_ | ((first | (refine kC (N := 7) rfl (by kernel_rfl) ?_) | refine kD ?_ | refine kE ?_); simp +decide only [go_sem])))
  refine dw_frz 5 1 (ints (usort xs)) (anyRows j' 1) (by decide) (by simp +decide only [go_sem, callMemAft, ints_c]; rfl) (by simp) ?_
  have hlen : (ints (usort xs)).length = (cpt (srt xs)).length := by simp [usort]
  have hle : (cpt (srt xs)).length ≤ (usort xs).length := Nat.le_refl _
  have htk : (ints (usort xs)).take (cpt (srt xs)).length = ints (usort xs) := by rw [← hlen, List.take_length]
  refine kF ?_; simp +decide only [go_sem, hle, htk]
end Go.Proofs.YtdmmhemfnnbddaaGreatDoor.S

/- Lexicons: where an entry lies. -/
namespace Go.Proofs.YtdmmhemfnnbddaaGreatDoor
open Go.Dl
open Go.Dl renaming dw_seq → kA, dw_block → kB, dw_reg → kC, dw_skip → kD, dw_exit → kE, dw_ret → kF, dw_cond → kG, guardC_f → kH, guardC_t → kI, dw_drw → kJ, dw_weaken → kK, sub_kn → kL, sub_ml → kM
open Go.Dl.CallC renaming mk → kN, light → kO
open Go.Dl.LeL renaming of_eq → kP
def bsE (l : List Ent) (id : Int) : Nat → Nat → Nat → Nat
  | 0, i, _ => i
  | n + 1, i, j => if i < j then (match l[(i + j) / 2]? with
    | some e => if e.id < id then bsE l id n ((i + j) / 2 + 1) j else bsE l id n i ((i + j) / 2)
    | none => i) else i
def posE (l : List Ent) (id : Int) : Nat := bsE l id l.length 0 l.length
def foundE (l : List Ent) (id : Int) : Bool := match l[posE l id]? with
  | some e => e.id == id
  | none => false
def hasId (l : List Ent) (id : Int) : Bool := l.any fun e => e.id == id
def UpE (l : List Ent) : Prop := l.Pairwise fun a b => a.id < b.id
end Go.Proofs.YtdmmhemfnnbddaaGreatDoor

/- Numbers in order, each once: plain. -/
namespace Go.Proofs.YtdmmhemfnnbddaaGreatDoor
open Go.Dl S
theorem cptF_spec : ∀ (l : List Int) (p : Int), l.Pairwise (· ≤ ·) → (∀ x ∈ l, p ≤ x) →
    (cptF (some p) l).Pairwise (· < ·) ∧ (∀ x ∈ cptF (some p) l, p < x) ∧ ∀ x, x ∈ cptF (some p) l ↔ x ∈ l ∧ x ≠ p
  | [], p, _, _ => by simp [cptF]
  | x :: l, p, hs, hp => by
    obtain ⟨h1, h2⟩ := List.pairwise_cons.1 hs
    have hpx := hp x (by simp)
    obtain ⟨i1, i2, i3⟩ := cptF_spec l x h2 h1
    simp only [cptF]
    split
    · rename_i he
      injection he with he; subst he
      refine ⟨i1, i2, fun y => ?_⟩
      rw [i3]
      constructor
      · exact fun h => ⟨List.mem_cons_of_mem _ h.1, h.2⟩
      · rintro ⟨h, hn⟩
        rcases List.mem_cons.1 h with h | h
        · exact absurd h hn
        · exact ⟨h, hn⟩
    · rename_i he
      have hlt : p < x := by
        have : p ≠ x := fun e => he (by rw [e])
        omega
      refine ⟨List.pairwise_cons.2 ⟨i2, i1⟩, fun y hy => ?_, fun y => ?_⟩
      · rcases List.mem_cons.1 hy with rfl | hy
        · exact hlt
        · have := i2 y hy; omega
      · simp only [List.mem_cons, i3]
        constructor
        · rintro (rfl | ⟨h, _⟩)
          · exact ⟨.inl rfl, by omega⟩
          · have := h1 y h; exact ⟨.inr h, by omega⟩
        · rintro ⟨rfl | h, _⟩
          · exact .inl rfl
          · by_cases e : y = x
            · exact .inl e
            · exact .inr ⟨h, e⟩

theorem cpt_spec (l : List Int) (hs : l.Pairwise (· ≤ ·)) : (cpt l).Pairwise (· < ·) ∧ ∀ x, x ∈ cpt l ↔ x ∈ l := by
  cases l with
  | nil => simp [cpt, cptF]
  | cons x l =>
    obtain ⟨h1, h2⟩ := List.pairwise_cons.1 hs
    obtain ⟨i1, i2, i3⟩ := cptF_spec l x h2 h1
    have he : cpt (x :: l) = x :: cptF (some x) l := by simp [cpt, cptF]
    rw [he]
    refine ⟨List.pairwise_cons.2 ⟨i2, i1⟩, fun y => ?_⟩
    simp only [List.mem_cons, i3]
    constructor
    · rintro (h | h)
      · exact .inl h
      · exact .inr h.1
    · rintro (h | h)
      · exact .inl h
      · by_cases e : y = x
        · exact .inl e
        · exact .inr ⟨h, e⟩

theorem srt_pairwise (l : List Int) : (srt l).Pairwise (· ≤ ·) := by
  have := List.pairwise_mergeSort (le := fun x y : Int => decide (x ≤ y)) (fun a b c h1 h2 => by simp at *; omega) (fun a b => by simp; omega) l
  exact this.imp (by intro a b h; simpa using h)

theorem usort_spec (l : List Int) : (usort l).Pairwise (· < ·) ∧ ∀ x, x ∈ usort l ↔ x ∈ l := by
  obtain ⟨h1, h2⟩ := cpt_spec (srt l) (srt_pairwise l)
  exact ⟨h1, fun x => (h2 x).trans (List.mem_mergeSort)⟩


theorem lt_ext : ∀ {xs ys : List Int}, xs.Pairwise (· < ·) → ys.Pairwise (· < ·) → (∀ x, x ∈ xs ↔ x ∈ ys) → xs = ys
  | [], [], _, _, _ => rfl
  | [], y :: ys, _, _, h => by have := (h y).2 (by simp); simp at this
  | x :: xs, [], _, _, h => by have := (h x).1 (by simp); simp at this
  | x :: xs, y :: ys, hx, hy, h => by
    obtain ⟨a1, a2⟩ := List.pairwise_cons.1 hx
    obtain ⟨b1, b2⟩ := List.pairwise_cons.1 hy
    have e : x = y := by
      rcases List.mem_cons.1 ((h x).1 (by simp)) with e | e
      · exact e
      · rcases List.mem_cons.1 ((h y).2 (by simp)) with f | f
        · exact f.symm
        · have := a1 y f; have := b1 x e; omega
    subst e
    rw [lt_ext a2 b2 fun z => ?_]
    constructor
    · intro hz
      rcases List.mem_cons.1 ((h z).1 (by simp [hz])) with e | e
      · have := a1 z hz; omega
      · exact e
    · intro hz
      rcases List.mem_cons.1 ((h z).2 (by simp [hz])) with e | e
      · have := b1 z hz; omega
      · exact e
theorem usort_eq {xs ys : List Int} (hs : ys.Pairwise (· < ·)) (hm : ∀ x, x ∈ ys ↔ x ∈ xs) : usort xs = ys :=
  lt_ext (usort_spec xs).1 hs fun x => ((usort_spec xs).2 x).trans (hm x).symm
theorem usort_congr {xs ys : List Int} (hm : ∀ x, x ∈ xs ↔ x ∈ ys) : usort xs = usort ys :=
  usort_eq (usort_spec ys).1 fun x => ((usort_spec ys).2 x).trans (hm x).symm
theorem usort_up {xs : List Int} (h : xs.Pairwise (· < ·)) : usort xs = xs := usort_eq h fun _ => Iff.rfl
theorem usort_usort (xs : List Int) : usort (usort xs) = usort xs := usort_up (usort_spec xs).1
def putI (l : List Int) (n : Int) : List Int := (l.takeWhile fun x => decide (x < n)) ++ n :: (l.dropWhile fun x => decide (x < n)).dropWhile fun x => decide (x = n)
theorem putI_spec {l : List Int} (n : Int) (h : l.Pairwise (· < ·)) : (putI l n).Pairwise (· < ·) ∧ ∀ x, x ∈ putI l n ↔ x ∈ l ∨ x = n := by
  have key : ∀ l : List Int, l.Pairwise (· < ·) → ∃ a b, l = a ++ b ∧ (l.takeWhile fun x => decide (x < n)) = a ∧ (l.dropWhile fun x => decide (x < n)) = b ∧ (∀ x ∈ a, x < n) ∧ ∀ x ∈ b, n ≤ x := by
    intro l
    induction l with
    | nil => intro _; exact ⟨[], [], rfl, rfl, rfl, by simp, by simp⟩
    | cons y l ih =>
      intro h
      obtain ⟨h1, h2⟩ := List.pairwise_cons.1 h
      by_cases hy : y < n
      · obtain ⟨a, b, e, ea, eb, ha, hb⟩ := ih h2
        refine ⟨y :: a, b, by rw [e]; rfl, ?_, ?_, ?_, hb⟩
        · rw [List.takeWhile_cons, if_pos (by simpa using hy), ea]
        · rw [List.dropWhile_cons, if_pos (by simpa using hy), eb]
        · intro x hx
          rcases List.mem_cons.1 hx with rfl | hx
          · exact hy
          · exact ha x hx
      · refine ⟨[], y :: l, rfl, ?_, ?_, by simp, ?_⟩
        · rw [List.takeWhile_cons, if_neg (by simpa using hy)]
        · rw [List.dropWhile_cons, if_neg (by simpa using hy)]
        · intro x hx
          rcases List.mem_cons.1 hx with rfl | hx
          · omega
          · have := h1 x hx; omega
  obtain ⟨a, b, e, ea, eb, ha, hb⟩ := key l h
  have hP := h
  rw [e, List.pairwise_append] at hP
  obtain ⟨pa, pb, pab⟩ := hP
  have hd : ∃ c, (b.dropWhile fun x => decide (x = n)) = c ∧ (b = c ∨ b = n :: c) ∧ (∀ x ∈ c, n < x) ∧ c.Pairwise (· < ·) := by
    cases b with
    | nil => exact ⟨[], rfl, .inl rfl, by simp, by simp⟩
    | cons y b =>
      obtain ⟨q1, q2⟩ := List.pairwise_cons.1 pb
      by_cases hy : y = n
      · subst hy
        have hb2 : (b.dropWhile fun x => decide (x = y)) = b := by
          cases b with
          | nil => rfl
          | cons z b =>
            have := q1 z (by simp)
            rw [List.dropWhile_cons, if_neg (by simp; omega)]
        exact ⟨b, by rw [List.dropWhile_cons, if_pos (by simp), hb2], .inr rfl, q1, q2⟩
      · have hny := hb y (by simp)
        refine ⟨y :: b, by rw [List.dropWhile_cons, if_neg (by simpa using hy)], .inl rfl, fun x hx => ?_, pb⟩
        rcases List.mem_cons.1 hx with rfl | hx
        · omega
        · have := q1 x hx; omega
  obtain ⟨c, ec, hbc, hc, pc⟩ := hd
  have hput : putI l n = a ++ n :: c := by rw [putI, ea, eb, ec]
  rw [hput]
  refine ⟨?_, fun x => ?_⟩
  · rw [List.pairwise_append, List.pairwise_cons]
    refine ⟨pa, ⟨hc, pc⟩, fun x hx y hy => ?_⟩
    rcases List.mem_cons.1 hy with rfl | hy
    · exact ha x hx
    · have := ha x hx; have := hc y hy; omega
  · rw [e]
    rcases hbc with rfl | rfl
    · simp only [List.mem_append, List.mem_cons]
      constructor
      · rintro (h | h | h)
        · exact .inl (.inl h)
        · exact .inr h
        · exact .inl (.inr h)
      · rintro ((h | h) | h)
        · exact .inl h
        · exact .inr (.inr h)
        · exact .inr (.inl h)
    · simp only [List.mem_append, List.mem_cons]
      constructor
      · rintro (h | h | h)
        · exact .inl (.inl h)
        · exact .inr h
        · exact .inl (.inr (.inr h))
      · rintro ((h | h | h) | h)
        · exact .inl h
        · exact .inr (.inl h)
        · exact .inr (.inr h)
        · exact .inr (.inl h)
theorem putI_usort (xs : List Int) (n : Int) : putI (usort xs) n = usort (xs ++ [n]) := by
  obtain ⟨h1, h2⟩ := putI_spec n (usort_spec xs).1
  refine (usort_eq h1 fun x => ?_).symm
  rw [h2, (usort_spec xs).2]; simp
theorem usort_nil : usort [] = [] := by simp [usort, srt, cpt, cptF]
def lowI (l : List Int) (n : Int) : Nat := (l.takeWhile fun x => decide (x < n)).length
end Go.Proofs.YtdmmhemfnnbddaaGreatDoor

/- Right lexicons: plain. -/
namespace Go.Proofs.YtdmmhemfnnbddaaGreatDoor
open Go.Dl
open Go.Dl renaming dw_seq → kA, dw_block → kB, dw_reg → kC, dw_skip → kD, dw_exit → kE, dw_ret → kF, dw_cond → kG, guardC_f → kH, guardC_t → kI, dw_drw → kJ, dw_weaken → kK, sub_kn → kL, sub_ml → kM
open Go.Dl.CallC renaming mk → kN, light → kO
open Go.Dl.LeL renaming of_eq → kP
theorem bsE_low (l : List Ent) (id : Int) (hs : UpE l) : ∀ n i j, j ≤ l.length → i ≤ j → j - i ≤ n → (∀ k, k < i → ∀ y, l[k]? = some y → y.id < id) → (∀ k, j ≤ k → ∀ y, l[k]? = some y → id ≤ y.id) →
    bsE l id n i j ≤ l.length ∧ (∀ k, k < bsE l id n i j → ∀ y, l[k]? = some y → y.id < id) ∧ (∀ k, bsE l id n i j ≤ k → ∀ y, l[k]? = some y → id ≤ y.id)
  | 0, i, j, hj, hij, hn, h1, h2 => by
    simp only [bsE]
    exact ⟨by omega, h1, fun k hk => h2 k (by omega)⟩
  | n + 1, i, j, hj, hij, hn, h1, h2 => by
    unfold bsE
    by_cases hlt : i < j
    · rw [if_pos hlt]
      have hm : (i + j) / 2 < l.length := by omega
      have hx : l[(i + j) / 2]? = some l[(i + j) / 2] := List.getElem?_eq_getElem hm
      rw [hx]; simp only
      by_cases hl : l[(i + j) / 2].id < id
      · rw [if_pos hl]
        refine bsE_low l id hs n _ j hj (by omega) (by omega) (fun k hk y hy => ?_) h2
        by_cases hk2 : k = (i + j) / 2
        · subst hk2; rw [hx] at hy; injection hy with hy; subst hy; exact hl
        · obtain ⟨hkl, hke⟩ := List.getElem?_eq_some_iff.1 hy
          have := List.pairwise_iff_getElem.1 hs k ((i + j) / 2) hkl hm (by omega)
          rw [hke] at this; omega
      · rw [if_neg hl]
        refine bsE_low l id hs n i _ (by omega) (by omega) (by omega) h1 (fun k hk y hy => ?_)
        by_cases hk2 : k = (i + j) / 2
        · subst hk2; rw [hx] at hy; injection hy with hy; subst hy; omega
        · obtain ⟨hkl, hke⟩ := List.getElem?_eq_some_iff.1 hy
          have := List.pairwise_iff_getElem.1 hs ((i + j) / 2) k hm hkl (by omega)
          rw [hke] at this; omega
    · rw [if_neg hlt]
      exact ⟨by omega, h1, fun k hk => h2 k (by omega)⟩
theorem posE_low (l : List Ent) (id : Int) (hs : UpE l) : posE l id ≤ l.length ∧ (∀ y ∈ l.take (posE l id), y.id < id) ∧ ∀ y ∈ l.drop (posE l id), id ≤ y.id := by
  obtain ⟨h0, h1, h2⟩ := bsE_low l id hs l.length 0 l.length (Nat.le_refl _) (Nat.zero_le _) (by omega) (fun k hk => absurd hk (by omega)) (fun k hk y hy => by rw [List.getElem?_eq_none hk] at hy; cases hy)
  refine ⟨h0, fun y hy => ?_, fun y hy => ?_⟩
  · obtain ⟨k, hk⟩ := List.getElem?_of_mem hy
    rw [List.getElem?_take] at hk
    split at hk
    · rename_i hlt; exact h1 k hlt y hk
    · cases hk
  · obtain ⟨k, hk⟩ := List.getElem?_of_mem hy
    rw [List.getElem?_drop] at hk
    exact h2 _ (Nat.le_add_right _ _) y hk
theorem bsE_le (l : List Ent) (id : Int) : ∀ n i j, i ≤ j → j ≤ l.length → bsE l id n i j ≤ l.length
  | 0, i, j, h1, h2 => by simp only [bsE]; omega
  | n + 1, i, j, h1, h2 => by
    unfold bsE
    split
    · split
      · split
        · exact bsE_le l id n _ _ (by omega) h2
        · exact bsE_le l id n _ _ (by omega) (by omega)
      · omega
    · omega
theorem posE_le (l : List Ent) (id : Int) : posE l id ≤ l.length := bsE_le l id _ _ _ (Nat.zero_le _) (Nat.le_refl _)
theorem hasId_iff (l : List Ent) (id : Int) : hasId l id = true ↔ ∃ e ∈ l, e.id = id := by simp [hasId]
theorem hasId_no {l : List Ent} {id : Int} (h : hasId l id = false) : ∀ e ∈ l, e.id ≠ id := fun e he hid => by
  have := (hasId_iff l id).2 ⟨e, he, hid⟩
  rw [h] at this; cases this
theorem foundE_eq (l : List Ent) (id : Int) (hs : UpE l) : foundE l id = hasId l id := by
  obtain ⟨h0, h1, h2⟩ := posE_low l id hs
  unfold foundE
  cases hx : l[posE l id]? with
  | none =>
    have hp : l.length ≤ posE l id := by simpa using hx
    cases hh : hasId l id
    · rfl
    · obtain ⟨e, he, hid⟩ := (hasId_iff l id).1 hh
      have := h1 e (by rw [List.take_of_length_le hp]; exact he)
      omega
  | some x =>
    simp only
    obtain ⟨hp, hxe⟩ := List.getElem?_eq_some_iff.1 hx
    cases hb : x.id == id
    · cases hh : hasId l id
      · rfl
      · exfalso
        obtain ⟨e, he, hid⟩ := (hasId_iff l id).1 hh
        rw [← List.take_append_drop (posE l id) l] at he
        rcases List.mem_append.1 he with he | he
        · have := h1 e he; omega
        · rw [List.drop_eq_getElem_cons hp, hxe] at he
          rcases List.mem_cons.1 he with rfl | he
          · simp at hb; exact hb hid
          · have hxd := h2 x (by rw [List.drop_eq_getElem_cons hp, hxe]; simp)
            obtain ⟨k, hk, hke⟩ := List.getElem_of_mem he
            rw [List.getElem_drop] at hke
            have hkl : posE l id + 1 + k < l.length := by simp at hk; omega
            have := List.pairwise_iff_getElem.1 hs (posE l id) (posE l id + 1 + k) hp hkl (by omega)
            rw [hxe, hke] at this
            have : x.id ≠ id := by simpa using hb
            omega
    · exact ((hasId_iff l id).2 ⟨x, List.mem_of_getElem? hx, by simpa using hb⟩).symm
theorem posE_at {l : List Ent} {id : Int} (hs : UpE l) (h : hasId l id = true) : ∃ e, l[posE l id]? = some e ∧ e.id = id := by
  have hf := foundE_eq l id hs
  rw [h] at hf
  unfold foundE at hf
  split at hf
  · rename_i x hx; exact ⟨x, hx, by simpa using hf⟩
  · cases hf
theorem upE_inj {l : List Ent} (hs : UpE l) {a b : Ent} (ha : a ∈ l) (hb : b ∈ l) (h : a.id = b.id) : a = b := by
  obtain ⟨i, hi, rfl⟩ := List.getElem_of_mem ha
  obtain ⟨j, hj, rfl⟩ := List.getElem_of_mem hb
  rcases Nat.lt_trichotomy i j with h1 | h1 | h1
  · have := List.pairwise_iff_getElem.1 hs i j hi hj h1; omega
  · subst h1; rfl
  · have := List.pairwise_iff_getElem.1 hs j i hj hi h1; omega

def notUp (p : Option Int) (id : Int) : Bool := match p with
  | some q => decide (id ≤ q)
  | none => false
def ordL (g : List Phon) (p : Option Int) : List Ent → Int
  | [] => 0
  | e :: l => if checkE g e ≠ 0 then checkE g e else if notUp p e.id = true then 10 else ordL g (some e.id) l
def refsIn (l : List Ent) (e : Ent) : Bool := (e.main == 0 || hasId l e.main) && e.links.all fun x => hasId l x.tgt
def lexE (g : List Phon) (l : List Ent) : Int := if 100 < l.length then 11 else if ordL g none l ≠ 0 then ordL g none l else if (l.all fun e => refsIn l e) = true then 0 else 9
theorem ordL_iff (g : List Phon) : ∀ (l : List Ent) (p : Option Int), ordL g p l = 0 ↔ (∀ e ∈ l, checkE g e = 0) ∧ UpE l ∧ ∀ q, p = some q → ∀ e ∈ l, q < e.id
  | [], p => by simp [ordL, UpE]
  | e :: l, p => by
    have ih := ordL_iff g l (some e.id)
    rw [ordL]
    by_cases h1 : checkE g e = 0
    · rw [if_neg (by simpa using h1)]
      have hp : notUp p e.id = true ↔ ¬ ∀ q, p = some q → q < e.id := by
        cases p with
        | none => simp [notUp]
        | some q => simp [notUp]
      by_cases h2 : ∀ q, p = some q → q < e.id
      · rw [if_neg (fun h => (hp.1 h) h2), ih]
        simp only [UpE, List.mem_cons, List.pairwise_cons, forall_eq_or_imp]
        constructor
        · rintro ⟨a, b, c⟩
          exact ⟨⟨h1, a⟩, ⟨fun x hx => c e.id rfl x hx, b⟩, fun q hq => ⟨h2 q hq, fun x hx => Int.lt_trans (h2 q hq) (c e.id rfl x hx)⟩⟩
        · rintro ⟨⟨_, a⟩, ⟨b, c⟩, d⟩
          exact ⟨a, c, fun q hq x hx => by injection hq with hq; rw [← hq]; exact b x hx⟩
      · rw [if_pos (hp.2 h2)]
        constructor
        · intro h; exact absurd h (by decide)
        · rintro ⟨_, _, d⟩; exact absurd (fun q hq => d q hq e (by simp)) h2
    · rw [if_pos h1]
      constructor
      · intro h; exact absurd h h1
      · rintro ⟨a, _, _⟩; exact absurd (a e (by simp)) h1
structure RightL (g : List Phon) (l : List Ent) : Prop where
  len : l.length ≤ 100
  each : ∀ e ∈ l, checkE g e = 0
  up : UpE l
  refs : ∀ e ∈ l, refsIn l e = true
theorem lexE_iff (g : List Phon) (l : List Ent) : lexE g l = 0 ↔ RightL g l := by
  unfold lexE
  by_cases h0 : 100 < l.length
  · rw [if_pos h0]; exact ⟨fun h => absurd h (by decide), fun h => by have := h.len; omega⟩
  rw [if_neg h0]
  by_cases h1 : ordL g none l = 0
  · rw [if_neg (by simpa using h1)]
    obtain ⟨a, b, _⟩ := (ordL_iff g l none).1 h1
    cases h2 : l.all fun e => refsIn l e
    · rw [if_neg (by decide)]
      refine ⟨fun h => absurd h (by decide), fun h => ?_⟩
      rw [List.all_eq_true.2 h.refs] at h2; cases h2
    · rw [if_pos rfl]
      exact ⟨fun _ => ⟨by omega, a, b, List.all_eq_true.1 h2⟩, fun _ => rfl⟩
  · rw [if_pos h1]
    exact ⟨fun h => absurd h h1, fun h => (ordL_iff g l none).2 ⟨h.each, h.up, fun q hq => by cases hq⟩⟩
end Go.Proofs.YtdmmhemfnnbddaaGreatDoor

/- Lexicons changed: plain. -/
namespace Go.Proofs.YtdmmhemfnnbddaaGreatDoor
open Go.Dl
open Go.Dl renaming dw_seq → kA, dw_block → kB, dw_reg → kC, dw_skip → kD, dw_exit → kE, dw_ret → kF, dw_cond → kG, guardC_f → kH, guardC_t → kI, dw_drw → kJ, dw_weaken → kK, sub_kn → kL, sub_ml → kM
open Go.Dl.CallC renaming mk → kN, light → kO
open Go.Dl.LeL renaming of_eq → kP
def usesId (id : Int) (e : Ent) : Bool := e.main == id || e.links.any fun x => x.tgt == id
def othersE (l : List Ent) (id : Int) : List Ent := l.filter fun e => !(e.id == id)
def putLx (l : List Ent) (e : Ent) : List Ent := l.take (posE l e.id) ++ e :: l.drop (if foundE l e.id = true then posE l e.id + 1 else posE l e.id)
theorem cut_at {l : List Ent} (id : Int) (hs : UpE l) : ∃ a b, l.take (posE l id) = a ∧ l.drop (if foundE l id = true then posE l id + 1 else posE l id) = b ∧ (∀ x ∈ a, x.id < id) ∧ (∀ x ∈ b, id < x.id) ∧
    ((foundE l id = false ∧ l = a ++ b) ∨ ∃ o, foundE l id = true ∧ o.id = id ∧ l = a ++ o :: b ∧ l[posE l id]? = some o) := by
  obtain ⟨h0, h1, h2⟩ := posE_low l id hs
  have hf := foundE_eq l id hs
  cases hh : hasId l id
  · rw [hh] at hf
    refine ⟨_, _, rfl, rfl, h1, fun x hx => ?_, .inl ⟨hf, ?_⟩⟩
    · rw [hf, if_neg (by decide)] at hx
      have := h2 x hx
      have := hasId_no hh x (List.mem_of_mem_drop hx)
      omega
    · rw [hf, if_neg (by decide), List.take_append_drop]
  · rw [hh] at hf
    obtain ⟨o, ho, hid⟩ := posE_at hs hh
    obtain ⟨hp, hpe⟩ := List.getElem?_eq_some_iff.1 ho
    refine ⟨_, _, rfl, rfl, h1, fun x hx => ?_, .inr ⟨o, hf, hid, ?_, ho⟩⟩
    · rw [hf, if_pos rfl] at hx
      obtain ⟨k, hk, hke⟩ := List.getElem_of_mem hx
      rw [List.getElem_drop] at hke
      have hkl : posE l id + 1 + k < l.length := by simp at hk; omega
      have := List.pairwise_iff_getElem.1 hs (posE l id) (posE l id + 1 + k) hp hkl (by omega)
      rw [hpe, hke] at this; omega
    · rw [hf, if_pos rfl]
      conv => lhs; rw [← List.take_append_drop (posE l id) l, List.drop_eq_getElem_cons hp, hpe]
theorem upE_app {a b : List Ent} {e : Ent} (ha : UpE a) (hb : UpE b) (h1 : ∀ x ∈ a, x.id < e.id) (h2 : ∀ x ∈ b, e.id < x.id) : UpE (a ++ e :: b) := by
  rw [UpE, List.pairwise_append, List.pairwise_cons]
  refine ⟨ha, ⟨h2, hb⟩, fun x hx y hy => ?_⟩
  rcases List.mem_cons.1 hy with rfl | hy
  · exact h1 x hx
  · have := h1 x hx; have := h2 y hy; omega
theorem pos_app {a b : List Ent} {id : Int} (hs : UpE (a ++ b)) (h1 : ∀ x ∈ a, x.id < id) (h2 : ∀ x ∈ b, id ≤ x.id) : posE (a ++ b) id = a.length := by
  obtain ⟨g0, g1, g2⟩ := posE_low (a ++ b) id hs
  rcases Nat.lt_trichotomy (posE (a ++ b) id) a.length with h | h | h
  · exfalso
    have hm : (a ++ b)[posE (a ++ b) id]'(by simp; omega) ∈ (a ++ b).drop (posE (a ++ b) id) := List.mem_iff_getElem.2 ⟨0, by simp; omega, by simp⟩
    have q1 := g2 _ hm
    rw [List.getElem_append_left h] at q1
    have := h1 _ (List.getElem_mem h)
    omega
  · exact h
  · exfalso
    have hb : 0 < b.length := by simp at g0; omega
    have hm : b[0] ∈ (a ++ b).take (posE (a ++ b) id) := List.mem_iff_getElem.2 ⟨a.length, by simp; omega, by simp⟩
    have := g1 _ hm
    have := h2 _ (List.getElem_mem hb)
    omega
theorem putLx_up {l : List Ent} {e : Ent} (hs : UpE l) : UpE (putLx l e) := by
  obtain ⟨a, b, ha, hb, h1, h2, h3⟩ := cut_at e.id hs
  rw [putLx, ha, hb]
  rcases h3 with ⟨_, h⟩ | ⟨o, _, _, h, _⟩
  · rw [h, UpE, List.pairwise_append] at hs
    exact upE_app hs.1 hs.2.1 h1 h2
  · rw [h, UpE, List.pairwise_append, List.pairwise_cons] at hs
    exact upE_app hs.1 hs.2.1.2 h1 h2
theorem filter_all {l : List Ent} {id : Int} (h : ∀ x ∈ l, x.id ≠ id) : othersE l id = l := List.filter_eq_self.2 fun x hx => by simpa using h x hx
theorem others_app (a b : List Ent) (e : Ent) {id : Int} (he : e.id = id) : othersE (a ++ e :: b) id = othersE a id ++ othersE b id := by
  simp [othersE, List.filter_append, List.filter_cons, he]
theorem put_others {l : List Ent} {e : Ent} (hs : UpE l) : othersE (putLx l e) e.id = othersE l e.id := by
  obtain ⟨a, b, ha, hb, h1, h2, h3⟩ := cut_at e.id hs
  rw [putLx, ha, hb, others_app a b e rfl]
  rcases h3 with ⟨_, h⟩ | ⟨o, _, ho, h, _⟩
  · rw [h, othersE, othersE, othersE, List.filter_append]
  · rw [h, others_app a b o ho]
theorem put_new {l : List Ent} {e : Ent} (hs : UpE l) (hf : foundE l e.id = false) : othersE (putLx l e) e.id = l := by
  rw [put_others hs]
  rw [foundE_eq l e.id hs] at hf
  exact filter_all (hasId_no hf)
theorem put_back {l : List Ent} {e o : Ent} (hs : UpE l) (ho : o ∈ l) (hid : o.id = e.id) : putLx (putLx l e) o = l := by
  obtain ⟨a, b, ha, hb, h1, h2, h3⟩ := cut_at e.id hs
  have hup := putLx_up (e := e) hs
  rcases h3 with ⟨hf, h⟩ | ⟨o', _, ho', h, _⟩
  · exfalso
    rw [foundE_eq l e.id hs] at hf
    exact hasId_no hf o ho hid
  · have hoo : o = o' := upE_inj hs ho (by rw [h]; simp) (by omega)
    subst hoo
    have hP : putLx l e = a ++ e :: b := by rw [putLx, ha, hb]
    rw [hP] at hup ⊢
    have hpos : posE (a ++ e :: b) o.id = a.length := pos_app hup (by rw [hid]; exact h1) (by
      intro x hx
      rcases List.mem_cons.1 hx with rfl | hx
      · omega
      · have := h2 x hx; omega)
    have hfo : foundE (a ++ e :: b) o.id = true := by
      rw [foundE_eq _ _ hup]; exact (hasId_iff _ _).2 ⟨e, by simp, by omega⟩
    rw [putLx, hfo, if_pos rfl, hpos]
    rw [List.take_left, List.drop_append, List.drop_eq_nil_of_le (Nat.le_succ _)]
    simp [h]
theorem put_get {l : List Ent} {e : Ent} : e ∈ putLx l e := by simp [putLx]
theorem putLx_len (l : List Ent) (e : Ent) : (putLx l e).length ≤ l.length + 1 := by
  have := posE_le l e.id
  simp only [putLx, List.length_append, List.length_take, List.length_cons, List.length_drop]
  split <;> omega

/-! ### Dropping -/
theorem others_up {l : List Ent} (hs : UpE l) (id : Int) : UpE (othersE l id) := hs.sublist List.filter_sublist
theorem hasId_others {l : List Ent} {id j : Int} (h : j ≠ id) : hasId (othersE l id) j = hasId l j := by
  rw [Bool.eq_iff_iff, hasId_iff, hasId_iff]
  constructor
  · rintro ⟨e, he, hj⟩; exact ⟨e, (List.mem_filter.1 he).1, hj⟩
  · rintro ⟨e, he, hj⟩; exact ⟨e, List.mem_filter.2 ⟨he, by simp; omega⟩, hj⟩
theorem drop_right {g : List Phon} {l : List Ent} {id : Int} (h : RightL g l) (hu : ∀ e ∈ othersE l id, usesId id e = false) : RightL g (othersE l id) := by
  refine ⟨Nat.le_trans (List.length_filter_le _ _) h.len, fun e he => h.each e (List.mem_filter.1 he).1, others_up h.up id, fun e he => ?_⟩
  have h1 := h.refs e (List.mem_filter.1 he).1
  have h2 := hu e he
  simp only [usesId, Bool.or_eq_false_iff] at h2
  simp only [refsIn, Bool.and_eq_true, Bool.or_eq_true] at h1 ⊢
  refine ⟨?_, ?_⟩
  · rcases h1.1 with h3 | h3
    · exact .inl h3
    · exact .inr (by rw [hasId_others (by simpa using h2.1)]; exact h3)
  · rw [List.all_eq_true] at h1 ⊢
    intro x hx
    have h4 := h2.2
    rw [List.any_eq_false] at h4
    rw [hasId_others (by simpa using h4 x hx)]; exact h1.2 x hx
theorem others_len {l : List Ent} {id : Int} (hs : UpE l) (h : hasId l id = true) : (othersE l id).length + 1 = l.length := by
  obtain ⟨a, b, _, _, h1, h2, h3⟩ := cut_at id hs
  have hf := foundE_eq l id hs
  rw [h] at hf
  rcases h3 with ⟨hff, _⟩ | ⟨o, _, ho, hl, _⟩
  · rw [hf] at hff; cases hff
  · rw [hl, others_app a b o ho, filter_all (fun x hx => by have := h1 x hx; omega), filter_all (fun x hx => by have := h2 x hx; omega)]
    simp; omega
theorem others_cut {l : List Ent} {id : Int} (hs : UpE l) (h : foundE l id = true) : othersE l id = l.take (posE l id) ++ l.drop (posE l id + 1) := by
  obtain ⟨a, b, ha, hb, h1, h2, h3⟩ := cut_at id hs
  rcases h3 with ⟨hff, _⟩ | ⟨o, _, ho, hl, _⟩
  · rw [h] at hff; cases hff
  · rw [h, if_pos rfl] at hb
    rw [ha, hb]
    conv => lhs; rw [hl]
    rw [others_app a b o ho, filter_all (fun x hx => by have := h1 x hx; omega), filter_all (fun x hx => by have := h2 x hx; omega)]
theorem right_unused {g : List Phon} {l : List Ent} {id : Int} (h : RightL g l) (hn : hasId l id = false) (h0 : id ≠ 0) : ∀ e ∈ l, usesId id e = false := by
  intro e he
  have h1 := h.refs e he
  simp only [refsIn, Bool.and_eq_true, Bool.or_eq_true] at h1
  simp only [usesId, Bool.or_eq_false_iff]
  refine ⟨?_, ?_⟩
  · cases hm : e.main == id
    · rfl
    · have hm : e.main = id := by simpa using hm
      rcases h1.1 with h2 | h2
      · rw [hm] at h2; simp at h2; exact absurd h2 h0
      · rw [hm, hn] at h2; cases h2
  · rw [List.any_eq_false]
    intro x hx hxi
    have hxi : x.tgt = id := by simpa using hxi
    have := List.all_eq_true.1 h1.2 x hx
    rw [hxi, hn] at this; cases this
end Go.Proofs.YtdmmhemfnnbddaaGreatDoor

/- Homonyms: plain. -/
namespace Go.Proofs.YtdmmhemfnnbddaaGreatDoor
open Go.Dl
open Go.Dl renaming dw_seq → kA, dw_block → kB, dw_reg → kC, dw_skip → kD, dw_exit → kE, dw_ret → kF, dw_cond → kG, guardC_f → kH, guardC_t → kI, dw_drw → kJ, dw_weaken → kK, sub_kn → kL, sub_ml → kM
open Go.Dl.CallC renaming mk → kN, light → kO
open Go.Dl.LeL renaming of_eq → kP
def idsOf (l : List Ent) (p : Ent → Bool) : List Int := (l.filter p).map (·.id)
theorem ids_up {l : List Ent} (hs : UpE l) (p : Ent → Bool) : (idsOf l p).Pairwise (· < ·) := by
  rw [idsOf, List.pairwise_map]
  exact hs.sublist List.filter_sublist
theorem ids_app (a b : List Ent) (p : Ent → Bool) : idsOf (a ++ b) p = idsOf a p ++ idsOf b p := by simp [idsOf]
theorem mem_ids {l : List Ent} {p : Ent → Bool} {n : Int} : n ∈ idsOf l p ↔ ∃ e ∈ l, p e = true ∧ e.id = n := by
  simp only [idsOf, List.mem_map, List.mem_filter]
  constructor
  · rintro ⟨e, ⟨h1, h2⟩, h3⟩; exact ⟨e, h1, h2, h3⟩
  · rintro ⟨e, h1, h2, h3⟩; exact ⟨e, ⟨h1, h2⟩, h3⟩
theorem ids_idx {l : List Ent} (hs : UpE l) {p : Ent → Bool} {k : Nat} {e : Ent} (hk : l[k]? = some e) (hp : p e = true) : idxF (fun x => e.id == x) (idsOf l p) = ((l.take k).countP p : Int) := by
  obtain ⟨hkl, hke⟩ := List.getElem?_eq_some_iff.1 hk
  have hl : l = l.take k ++ e :: l.drop (k + 1) := by
    conv => lhs; rw [← List.take_append_drop k l, List.drop_eq_getElem_cons hkl, hke]
  have hlt : ∀ x ∈ l.take k, x.id < e.id := fun x hx => by
    obtain ⟨j, hj, rfl⟩ := List.getElem_of_mem hx
    have hjk : j < k := by simp at hj; omega
    rw [List.getElem_take]
    have := List.pairwise_iff_getElem.1 hs j k (by omega) hkl hjk
    rwa [hke] at this
  have h1 : idsOf l p = idsOf (l.take k) p ++ e.id :: idsOf (l.drop (k + 1)) p := by
    conv => lhs; rw [hl]
    rw [ids_app]
    simp [idsOf, List.filter_cons, hp]
  have h2 : ∀ x ∈ idsOf (l.take k) p, (e.id == x) = false := fun x hx => by
    obtain ⟨y, hy, _, rfl⟩ := mem_ids.1 hx
    have := hlt y hy
    simp; omega
  have h3 : (idsOf l p).any (fun x => e.id == x) = true := by rw [h1]; simp
  rw [idxF, h3, if_pos rfl]
  congr 1
  rw [h1, List.findIdx_append]
  have h4 : (idsOf (l.take k) p).findIdx (fun x => e.id == x) = (idsOf (l.take k) p).length := List.findIdx_eq_length_of_false h2
  rw [h4, if_neg (by omega), List.findIdx_cons]
  simp [idsOf, List.countP_eq_length_filter]
theorem ids_len (l : List Ent) (p : Ent → Bool) : (idsOf l p).length = l.countP p := by simp [idsOf, List.countP_eq_length_filter]
end Go.Proofs.YtdmmhemfnnbddaaGreatDoor

/- Lexicons: searching, choosing. -/
namespace Go.Proofs.YtdmmhemfnnbddaaGreatDoor
open Go.Dl
open Go.Dl renaming dw_seq → kA, dw_block → kB, dw_reg → kC, dw_skip → kD, dw_exit → kE, dw_ret → kF, dw_cond → kG, guardC_f → kH, guardC_t → kI, dw_drw → kJ, dw_weaken → kK, sub_kn → kL, sub_ml → kM
open Go.Dl.CallC renaming mk → kN, light → kO
open Go.Dl.LeL renaming of_eq → kP
open S (usort)
attribute [local irreducible] DW DCalls ECalls wk IW

set_option maxRecDepth 10000 in
theorem number_D (e : Ent) : DCalls Tryz.prog 43 [.agg e.row] (dv (li e.id)) := by
  refine dcalls (N := 5) (rs := [.tmp 2]) (by kernel_rfl) Tryz.func43 rfl rfl rfl (by simp) ?_
  (repeat' (first | refine kA ?_ | refine kB ?_ | ((first | (refine kC (N := 5) rfl (by kernel_rfl) ?_) | refine kD ?_ | refine kE ?_ | refine kF ?_); simp +decide only [go_sem, Ent.row]) | (apply kG; (simp +decide only [go_sem, Ent.row]; rfl); all_goals (intro hcnd; first | (exact absurd hcnd (by decide)) | skip))))

theorem half_tdiv (i j : Nat) (h : i + j ≤ 20000000) : IntKind.i64.wrap ((i : Int) + (j : Int)) = ((i + j : Nat) : Int) ∧ (((i + j : Nat) : Int).tdiv 2) = (((i + j) / 2 : Nat) : Int) ∧ IntKind.i64.wrap (((i + j) / 2 : Nat) : Int) = (((i + j) / 2 : Nat) : Int) := by
  refine ⟨by rw [wrap_i64 (by omega) (by omega)]; omega, ?_, by rw [wrap_i64 (by omega) (by omega)]⟩
  rw [Int.tdiv_eq_ediv_of_nonneg (by omega)]; omega

set_option maxRecDepth 10000 in
set_option maxHeartbeats 4000000 in
theorem search_D (l : List Ent) (id : Int) (hl : l.length ≤ 2000000) : DCalls Tryz.prog 42 [dv (.sl 8 (l.map Ent.enc)), dv (li id), dv (.fn 43 [])] (.tup [dv (li (posE l id)), dv (lb (foundE l id))]) := by
  have hmax : maxLen = 9223372036854775807 := rfl
  refine dcalls (N := 46) (rs := [.tmp 6, .tmp 7]) (by kernel_rfl) Tryz.func42 rfl rfl rfl (by simp) ?_
  (repeat (first | refine kA ?_ | refine kB ?_ | ((first | (refine kC (N := 46) rfl (by kernel_rfl) ?_) | refine kD ?_ | refine kE ?_); simp +decide only [go_sem])))
  refine dw_loop_fam (fun y : Nat × Nat => kn 46 [(0, dv (.sl 8 (l.map Ent.enc))), (1, dv (li id)), (2, dv (.fn 43 [])), (8, dv (li y.1)), (9, dv (li y.2))] noMem)
    (fun y => y.1 ≤ y.2 ∧ y.2 ≤ l.length ∧ ∃ n, y.2 - y.1 ≤ n ∧ bsE l id n y.1 y.2 = posE l id) (fun y => y.2 - y.1) (0, l.length) (kL rfl (by simp +decide only [go_sem]) (by simp [noMem])) ⟨by omega, by omega, l.length, by simp, rfl⟩ ?_
  rintro ⟨i, j⟩ ⟨h1, h2, n, h3, h4⟩
  simp only at h1 h2 h3 h4
  obtain ⟨w1, w2, w3⟩ := half_tdiv i j (by omega)
  rcases Nat.lt_or_ge i j with hlt | hge
  · have hd : decide ((i : Int) < (j : Int)) = true := by simpa using hlt
    have hhl : (i + j) / 2 < l.length := by omega
    obtain ⟨q, hq⟩ : ∃ q, l[(i + j) / 2]? = some q := ⟨_, List.getElem?_eq_getElem hhl⟩
    have hw := wrap_succ ((i + j) / 2) (by omega)
    have hO := number_D q
    simp only [Ent.row] at hO
    obtain ⟨n', hn'⟩ : ∃ n', n = n' + 1 := ⟨n - 1, by omega⟩
    subst hn'
    rw [bsE, if_pos hlt, hq] at h4
    simp only at h4
    cases t1 : decide (q.id < id)
    · rw [if_neg (by simpa using t1)] at h4
      (repeat' (first | refine kA ?_ | refine kB ?_ | ((first | (refine kC (N := 46) rfl (by kernel_rfl) ?_) | refine kD ?_ | refine kE ?_ | (refine kN (hO) (kP rfl) ?_) | (refine kO (hO) (kP rfl) ?_)); simp +decide only [go_sem, hd, w1, w2, w3, hw, hq, t1, Int.toNat_natCast, Ent.enc]) | (apply kG; (simp +decide only [go_sem, hd, w1, w2, w3, hw, hq, t1, Int.toNat_natCast, Ent.enc]; rfl); all_goals (intro hcnd; first | (exact absurd hcnd (by decide)) | skip)) | ((first | refine kH ?_ ?_ | refine kI ?_ ?_) <;> (intro hcnd; simp +decide only [go_sem, hcnd, hd, w1, w2, w3, hw, hq, t1, Int.toNat_natCast, Ent.enc]))))
      exact ⟨(i, (i + j) / 2), ⟨by simp only; omega, by simp only; omega, n', by simp only; omega, h4⟩, by simp only; omega, kL rfl (by simp +decide only [go_sem]) (by simp [noMem])⟩
    · rw [if_pos (by simpa using t1)] at h4
      (repeat' (first | refine kA ?_ | refine kB ?_ | ((first | (refine kC (N := 46) rfl (by kernel_rfl) ?_) | refine kD ?_ | refine kE ?_ | (refine kN (hO) (kP rfl) ?_) | (refine kO (hO) (kP rfl) ?_)); simp +decide only [go_sem, hd, w1, w2, w3, hw, hq, t1, Int.toNat_natCast, Ent.enc]) | (apply kG; (simp +decide only [go_sem, hd, w1, w2, w3, hw, hq, t1, Int.toNat_natCast, Ent.enc]; rfl); all_goals (intro hcnd; first | (exact absurd hcnd (by decide)) | skip)) | ((first | refine kH ?_ ?_ | refine kI ?_ ?_) <;> (intro hcnd; simp +decide only [go_sem, hcnd, hd, w1, w2, w3, hw, hq, t1, Int.toNat_natCast, Ent.enc]))))
      exact ⟨((i + j) / 2 + 1, j), ⟨by simp only; omega, by simp only; omega, n', by simp only; omega, h4⟩, by simp only; omega, kL rfl (by simp +decide only [go_sem]) (by simp [noMem])⟩
  · have hij : i = j := by omega
    subst hij
    have hd : decide ((i : Int) < (i : Int)) = false := by simp
    have hr : posE l id = i := by rw [← h4]; cases n <;> simp [bsE]
    rcases Nat.lt_or_ge i l.length with hlt | hge
    · have hd2 : decide ((i : Int) < (l.length : Int)) = true := by simpa using hlt
      obtain ⟨q, hq⟩ : ∃ q, l[i]? = some q := ⟨_, List.getElem?_eq_getElem hlt⟩
      have hO := number_D q
      simp only [Ent.row] at hO
      (repeat' (first | refine kA ?_ | refine kB ?_ | ((first | (refine kC (N := 46) rfl (by kernel_rfl) ?_) | refine kD ?_ | refine kE ?_ | (refine kN (hO) (kP rfl) ?_) | (refine kO (hO) (kP rfl) ?_) | refine kF ?_); simp +decide only [go_sem, hd, hd2, hq, Int.toNat_natCast, Ent.enc]) | (apply kG; (simp +decide only [go_sem, hd, hd2, hq, Int.toNat_natCast, Ent.enc]; rfl); all_goals (intro hcnd; first | (exact absurd hcnd (by decide)) | skip)) | ((first | refine kH ?_ ?_ | refine kI ?_ ?_) <;> (intro hcnd; simp +decide only [go_sem, hcnd, hd, hd2, hq, Int.toNat_natCast, Ent.enc]))))
      rw [foundE, hr, hq]
    · have hd2 : decide ((i : Int) < (l.length : Int)) = false := by simpa using hge
      (repeat' (first | refine kA ?_ | refine kB ?_ | ((first | (refine kC (N := 46) rfl (by kernel_rfl) ?_) | refine kD ?_ | refine kE ?_ | refine kF ?_); simp +decide only [go_sem, hd, hd2]) | (apply kG; (simp +decide only [go_sem, hd, hd2]; rfl); all_goals (intro hcnd; first | (exact absurd hcnd (by decide)) | skip)) | ((first | refine kH ?_ ?_ | refine kI ?_ ?_) <;> (intro hcnd; simp +decide only [go_sem, hcnd, hd, hd2]))))
      rw [foundE, hr, List.getElem?_eq_none hge]

set_option maxRecDepth 10000 in
theorem miss_D (l : List Ent) (id : Int) (hl : l.length ≤ 2000000) : DCalls Tryz.prog 41 [dv (li id), dv (.pt [.sl 8 (l.map Ent.enc)])] (dv (lb (!foundE l id))) := by
  refine dcalls (N := 14) (rs := [.tmp 3]) (by kernel_rfl) Tryz.func41 rfl rfl rfl (by simp) ?_
  (repeat' (first | refine kA ?_ | refine kB ?_ | ((first | (refine kC (N := 14) rfl (by kernel_rfl) ?_) | refine kD ?_ | refine kE ?_ | (refine kN (search_D l id hl) (kP rfl) ?_) | (refine kO (search_D l id hl) (kP rfl) ?_) | refine kF ?_); simp +decide only [go_sem]) | (apply kG; (simp +decide only [go_sem]; rfl); all_goals (intro hcnd; first | (exact absurd hcnd (by decide)) | skip))))

theorem sorted_D (xs : List Int) (hl : xs.length ≤ 1000000) : DCalls Tryz.prog 79 [dv (.sl 1 (ints xs))] (dv (.sl 1 (ints (usort xs)))) := S.sorted_D xs hl

def TellsE (g : FuncId) (caps : List Dl.C) (p : Ent → Bool) (l : List Ent) : Prop := ∀ e ∈ l, DCalls Tryz.prog g ((.agg e.row) :: caps.map fun c => D.one (.c c)) (dv (lb (p e)))

theorem idsOf_snoc (l : List Ent) (p : Ent → Bool) (e : Ent) : idsOf (l ++ [e]) p = idsOf l p ++ if p e = true then [e.id] else [] := by
  rw [ids_app]; congr 1
  by_cases h : p e = true <;> simp [idsOf, h]
theorem idsOf_len (l : List Ent) (p : Ent → Bool) : (idsOf l p).length ≤ l.length := by simp [idsOf]; exact List.length_filter_le _ _
theorem idsOf_nil (p : Ent → Bool) : idsOf [] p = [] := rfl

set_option maxRecDepth 10000 in
set_option maxHeartbeats 4000000 in
theorem by_D (g : FuncId) (caps : List Dl.C) (p : Ent → Bool) (l : List Ent) (ht : TellsE g caps p l) (hl : l.length ≤ 1000000) : DCalls Tryz.prog 50 [dv (.sl 8 (l.map Ent.enc)), dv (.fn g caps)] (dv (.sl 1 (ints (usort (idsOf l p))))) := by
  have hmax : maxLen = 9223372036854775807 := rfl
  refine dcalls (N := 25) (rs := [.tmp 4]) (by kernel_rfl) Tryz.func50 rfl rfl rfl (by simp) ?_
  (repeat (first | refine kA ?_ | refine kB ?_ | ((first | (refine kC (N := 25) rfl (by kernel_rfl) ?_) | refine kD ?_ | refine kE ?_); simp +decide only [go_sem])))
  refine dw_own 5 5 1 (by simp +decide only [go_sem]) ?_
  refine dw_rngI l (fun k => kn 25 [(1, dv (.fn g caps)), (5, .one (.own 5 1 (ints (idsOf (l.take k) p)))), (8, dv (.sl 8 (l.map Ent.enc))), (9, dv (li l.length)), (10, dv (li k))] noMem) (fun _ => True) (by omega) (kL rfl (by simp +decide only [go_sem, List.take_zero, idsOf_nil, List.map_nil]) (by simp [noMem])) trivial ?_ ?_
  · intro k e he hk hm htk hlt hw _
    have hc := ht e hm
    have hi := idsOf_len (l.take k) p
    have r1 : (((idsOf (l.take k) p).length + 1) * 8 ≤ 140737488355328) = True := eq_true (by rw [List.length_take] at hi; omega)
    simp only [Ent.row] at hc
    cases t1 : p e
    · rw [t1] at hc
      have hst : idsOf (l.take (k + 1)) p = idsOf (l.take k) p := by rw [htk, idsOf_snoc, t1]; simp
      (repeat' (first | refine kA ?_ | refine kB ?_ | ((first | (refine kC (N := 25) rfl (by kernel_rfl) ?_) | refine kD ?_ | refine kE ?_ | (refine kN (hc) (kP rfl) ?_) | (refine kO (hc) (kP rfl) ?_) | refine kF ?_); simp +decide only [go_sem, hlt, hw, he, r1, Ent.enc]) | (apply kG; (simp +decide only [go_sem, hlt, hw, he, r1, Ent.enc]; rfl); all_goals (intro hcnd; first | (exact absurd hcnd (by decide)) | skip))))
      exact kL rfl (by simp +decide only [go_sem, hst]) (by simp [noMem])
    · rw [t1] at hc
      have hst : ints (idsOf (l.take (k + 1)) p) = ints (idsOf (l.take k) p) ++ [[li e.id]] := by rw [htk, idsOf_snoc, t1]; simp
      (repeat' (first | refine kA ?_ | refine kB ?_ | ((first | (refine kC (N := 25) rfl (by kernel_rfl) ?_) | refine kD ?_ | refine kE ?_ | (refine kN (hc) (kP rfl) ?_) | (refine kO (hc) (kP rfl) ?_) | refine kF ?_); simp +decide only [go_sem, hlt, hw, he, r1, Ent.enc]) | (apply kG; (simp +decide only [go_sem, hlt, hw, he, r1, Ent.enc]; rfl); all_goals (intro hcnd; first | (exact absurd hcnd (by decide)) | skip))))
      exact kL rfl (by simp +decide only [go_sem, hst]) (by simp [noMem])
  · intro hlt _
    rw [List.take_length]
    have hi := idsOf_len l p
    (repeat' (first | refine kA ?_ | refine kB ?_ | ((first | (refine kC (N := 25) rfl (by kernel_rfl) ?_) | refine kD ?_ | refine kE ?_ | (refine kN (sorted_D (idsOf l p) (by omega)) (kP rfl) ?_) | (refine kO (sorted_D (idsOf l p) (by omega)) (kP rfl) ?_) | refine kF ?_); simp +decide only [go_sem, hlt]) | (apply kG; (simp +decide only [go_sem, hlt]; rfl); all_goals (intro hcnd; first | (exact absurd hcnd (by decide)) | skip))))
end Go.Proofs.YtdmmhemfnnbddaaGreatDoor

/- Lexicons: entries by Id. -/
namespace Go.Proofs.YtdmmhemfnnbddaaGreatDoor
open Go.Dl
open Go.Dl renaming dw_seq → kA, dw_block → kB, dw_reg → kC, dw_skip → kD, dw_exit → kE, dw_ret → kF, dw_cond → kG, guardC_f → kH, guardC_t → kI, dw_drw → kJ, dw_weaken → kK, sub_kn → kL, sub_ml → kM
open Go.Dl.CallC renaming mk → kN, light → kO
open Go.Dl.LeL renaming of_eq → kP
open S (usort)
attribute [local irreducible] DW DCalls ECalls wk IW

def getE (l : List Ent) (id : Int) : Ent × Bool :=
  match l.find? fun e => e.id == id with
  | some e => (e, true)
  | none => (noEnt, false)
theorem getE_has (l : List Ent) (id : Int) : (getE l id).2 = hasId l id := by
  unfold getE hasId
  cases h : l.find? fun e => e.id == id with
  | none => exact (List.any_eq_false.2 (by simpa using h)).symm
  | some e => exact (List.any_eq_true.2 ⟨e, List.mem_of_find?_eq_some h, by simpa using List.find?_some h⟩).symm
theorem find_ex {α : Type} {l : List α} {q : α → Bool} {x : α} (h : l.find? q = some x) : ∃ k, l[k]? = some x ∧ (∀ y ∈ l.take k, q y = false) ∧ q x = true := by
  obtain ⟨hq, us, vs, hl, hu⟩ := List.find?_eq_some_iff_append.1 h
  refine ⟨us.length, by rw [hl]; simp, fun y hy => ?_, hq⟩
  rw [hl, List.take_left'] at hy
  · simpa using hu y hy
  · rfl
theorem find_nex {α : Type} {l : List α} {q : α → Bool} (h : l.find? q = none) : ∀ y ∈ l, q y = false := by simpa using h
theorem find_atK {α : Type} {l : List α} {q : α → Bool} {k : Nat} {x : α} (hx : l[k]? = some x) (hi : ∀ y ∈ l.take k, q y = false) (h : q x = true) : l.find? q = some x := by
  obtain ⟨hk, e⟩ := List.getElem?_eq_some_iff.1 hx
  refine List.find?_eq_some_iff_append.2 ⟨h, l.take k, l.drop (k + 1), ?_, fun y hy => by simpa using hi y hy⟩
  rw [← e, ← List.drop_eq_getElem_cons hk, List.take_append_drop]

set_option maxRecDepth 10000 in
theorem get1_D (e : Ent) (id : Int) : DCalls Tryz.prog 49 [.agg e.row, dv (.pt [li id])] (dv (lb (e.id == id))) := by
  refine dcalls (N := 8) (rs := [.tmp 3]) (by kernel_rfl) Tryz.func49 rfl rfl rfl (by simp) ?_
  (repeat (first | refine kA ?_ | refine kB ?_ | ((first | (refine kC (N := 8) rfl (by kernel_rfl) ?_) | refine kD ?_ | refine kE ?_); simp +decide only [go_sem, Ent.row])))
  refine kF ?_; simp +decide only [go_sem]

set_option maxRecDepth 10000 in
set_option maxHeartbeats 2000000 in
theorem idxE_D (l : List Ent) (id : Int) (hl : l.length ≤ 1000000) : DCalls Tryz.prog 48 [dv (.sl 8 (l.map Ent.enc)), dv (.fn 49 [.pt [li id]])] (dv (li (idxF (fun e => e.id == id) l))) := by
  have hmax : maxLen = 9223372036854775807 := rfl
  refine dcalls (N := 19) (rs := [.tmp 4]) (by kernel_rfl) Tryz.func48 rfl rfl rfl (by simp) ?_
  (repeat (first | refine kA ?_ | refine kB ?_ | ((first | (refine kC (N := 19) rfl (by kernel_rfl) ?_) | refine kD ?_ | refine kE ?_); simp +decide only [go_sem])))
  refine dw_rngI l (fun k => kn 19 [(0, dv (.sl 8 (l.map Ent.enc))), (1, dv (.fn 49 [.pt [li id]])), (7, dv (li l.length)), (8, dv (li k))] noMem) (fun k => ∀ e ∈ l.take k, (e.id == id) = false) (by omega) (kL rfl (by simp +decide only [go_sem]) (by simp [noMem])) (by simp) ?_ ?_
  · intro k e he hk hm htk hlt hw hi
    have hc := get1_D e id
    simp only [Ent.row] at hc
    (repeat' (first | refine kA ?_ | refine kB ?_ | ((first | (refine kC (N := 19) rfl (by kernel_rfl) ?_) | refine kD ?_ | refine kE ?_ | (refine kN (hc) (kP rfl) ?_) | (refine kO (hc) (kP rfl) ?_) | refine kF ?_); simp +decide only [go_sem, hlt, hw, he, Ent.enc]) | (apply kG; (simp +decide only [go_sem, hlt, hw, he, Ent.enc]; rfl); all_goals (intro hcnd; first | (exact absurd hcnd (by decide)) | skip))))
    · rw [idxF_at he hi hcnd]
    · exact ⟨forall_snoc htk hi hcnd, kL rfl (by simp +decide only [go_sem]) (by simp [noMem])⟩
  · intro hlt hi
    rw [List.take_length] at hi
    (repeat' (first | refine kA ?_ | refine kB ?_ | ((first | (refine kC (N := 19) rfl (by kernel_rfl) ?_) | refine kD ?_ | refine kE ?_ | refine kF ?_); simp +decide only [go_sem, hlt]) | (apply kG; (simp +decide only [go_sem, hlt]; rfl); all_goals (intro hcnd; first | (exact absurd hcnd (by decide)) | skip))))
    rw [idxF_no hi]

set_option maxRecDepth 10000 in
set_option maxHeartbeats 2000000 in
theorem get_D (l : List Ent) (id : Int) (hl : l.length ≤ 1000000) : DCalls Tryz.prog 17 [dv (.sl 8 (l.map Ent.enc)), dv (li id)] (.tup [.agg (getE l id).1.row, dv (lb (getE l id).2)]) := by
  refine dcalls (N := 17) (rs := [.cell 4 39, .tmp 5]) (by kernel_rfl) Tryz.func17 rfl rfl rfl (by simp) ?_
  (repeat (first | refine kA ?_ | refine kB ?_ | ((first | (refine kC (N := 17) rfl (by kernel_rfl) ?_) | refine kD ?_ | refine kE ?_); simp +decide only [go_sem])))
  refine CallC.frz 3 [li id] (by simp) (by simp +decide only [go_sem]) ?_
  simp +decide only [go_sem]
  (first | (refine kN (idxE_D l id hl) (kP rfl) ?_) | (refine kO (idxE_D l id hl) (kP rfl) ?_)); simp +decide only [go_sem]
  cases hf : l.find? (fun e => e.id == id) with
  | none =>
    rw [idxF_no (find_nex hf)]
    (repeat' (first | refine kA ?_ | refine kB ?_ | ((first | (refine kC (N := 17) rfl (by kernel_rfl) ?_) | refine kD ?_ | refine kE ?_); simp +decide only [go_sem]) | (apply kG; (simp +decide only [go_sem]; rfl); all_goals (intro hcnd; first | (exact absurd hcnd (by decide)) | skip))))
    refine dw_exc 4 (by simp +decide only [go_sem]; rfl) ?_
    refine kF ?_; simp +decide only [go_sem]
    simp [getE, hf, Ent.row, noEnt]
  | some e =>
    obtain ⟨k, he, hi, hq⟩ := find_ex hf
    have hn : decide ((k : Int) < 0) = false := by simp
    rw [idxF_at he hi hq]
    (repeat' (first | refine kA ?_ | refine kB ?_ | ((first | (refine kC (N := 17) rfl (by kernel_rfl) ?_) | refine kD ?_ | refine kE ?_ | refine kF ?_); simp +decide only [go_sem, hn, he, Ent.enc]) | (apply kG; (simp +decide only [go_sem, hn, he, Ent.enc]; rfl); all_goals (intro hcnd; first | (exact absurd hcnd (by decide)) | skip))))
    simp [getE, hf, Ent.row]

set_option maxRecDepth 10000 in
set_option maxHeartbeats 2000000 in
theorem rGet_D (l : List Ent) (id : Int) (hl : l.length ≤ 1000000) : DCalls Tryz.prog 18 [dv (.sl 8 (l.map Ent.enc)), dv (li id)] (.tup [.agg (getE l id).1.row, dv (lb (getE l id).2)]) := by
  have hmax : maxLen = 9223372036854775807 := rfl
  refine dcalls (N := 25) (rs := [.cell 4 39, .tmp 5]) (by kernel_rfl) Tryz.func18 rfl rfl rfl (by simp) ?_
  (repeat (first | refine kA ?_ | refine kB ?_ | ((first | (refine kC (N := 25) rfl (by kernel_rfl) ?_) | refine kD ?_ | refine kE ?_); simp +decide only [go_sem])))
  refine dw_rngI l (fun k => kn 25 [(0, dv (.sl 8 (l.map Ent.enc))), (1, dv (li id)), (4, .one (.bx 4 8 0 0)), (8, dv (li l.length)), (9, dv (li k))] (ml [(4, [[.c (li 0), .ex 1 [], .c (li 0), .ex 1 [], .c (li 0), .ex 2 [], .ex 2 [], .ex 2 []]])])) (fun k => ∀ e ∈ l.take k, (e.id == id) = false) (by omega) (kM rfl (by simp +decide only [go_sem]) (by simp +decide only [go_sem])) (by simp) ?_ ?_
  · intro k e he hk hm htk hlt hw hi
    cases t1 : e.id == id
    · (repeat' (first | refine kA ?_ | refine kB ?_ | ((first | (refine kC (N := 25) rfl (by kernel_rfl) ?_) | refine kD ?_ | refine kE ?_ | refine kF ?_); simp +decide only [go_sem, hlt, hw, he, t1, Ent.enc]) | (apply kG; (simp +decide only [go_sem, hlt, hw, he, t1, Ent.enc]; rfl); all_goals (intro hcnd; first | (exact absurd hcnd (by decide)) | skip))))
      exact ⟨forall_snoc htk hi t1, kM rfl (by simp +decide only [go_sem]) (by simp +decide only [go_sem])⟩
    · (repeat' (first | refine kA ?_ | refine kB ?_ | ((first | (refine kC (N := 25) rfl (by kernel_rfl) ?_) | refine kD ?_ | refine kE ?_ | refine kF ?_); simp +decide only [go_sem, hlt, hw, he, t1, Ent.enc]) | (apply kG; (simp +decide only [go_sem, hlt, hw, he, t1, Ent.enc]; rfl); all_goals (intro hcnd; first | (exact absurd hcnd (by decide)) | skip))))
      simp [getE, find_atK (q := fun e => e.id == id) he hi t1, Ent.row]
  · intro hlt hi
    rw [List.take_length] at hi
    (repeat' (first | refine kA ?_ | refine kB ?_ | ((first | (refine kC (N := 25) rfl (by kernel_rfl) ?_) | refine kD ?_ | refine kE ?_); simp +decide only [go_sem, hlt]) | (apply kG; (simp +decide only [go_sem, hlt]; rfl); all_goals (intro hcnd; first | (exact absurd hcnd (by decide)) | skip))))
    refine dw_exc 4 (by simp +decide only [go_sem]; rfl) ?_
    refine kF ?_; simp +decide only [go_sem]
    have hf : l.find? (fun e => e.id == id) = none := List.find?_eq_none.2 fun e he => by simpa using hi e he
    simp [getE, hf, Ent.row, noEnt]

set_option maxRecDepth 10000 in
theorem rHasId_D (l : List Ent) (id : Int) (hl : l.length ≤ 1000000) : DCalls Tryz.prog 47 [dv (.sl 8 (l.map Ent.enc)), dv (li id)] (dv (lb (hasId l id))) := by
  have h := rGet_D l id hl
  have h2 := getE_has l id
  generalize getE l id = p at h h2
  obtain ⟨e, b⟩ := p
  simp only at h2
  subst h2
  simp only [Ent.row] at h
  refine dcalls (N := 14) (rs := [.tmp 4]) (by kernel_rfl) Tryz.func47 rfl rfl rfl (by simp) ?_
  (repeat' (first | refine kA ?_ | refine kB ?_ | ((first | (refine kC (N := 14) rfl (by kernel_rfl) ?_) | refine kD ?_ | refine kE ?_ | (refine kN (h) (kP rfl) ?_) | (refine kO (h) (kP rfl) ?_) | refine kF ?_); simp +decide only [go_sem]) | (apply kG; (simp +decide only [go_sem]; rfl); all_goals (intro hcnd; first | (exact absurd hcnd (by decide)) | skip))))
end Go.Proofs.YtdmmhemfnnbddaaGreatDoor

/- Lexicons: entries chosen. -/
namespace Go.Proofs.YtdmmhemfnnbddaaGreatDoor
open Go.Dl
open Go.Dl renaming dw_seq → kA, dw_block → kB, dw_reg → kC, dw_skip → kD, dw_exit → kE, dw_ret → kF, dw_cond → kG, guardC_f → kH, guardC_t → kI, dw_drw → kJ, dw_weaken → kK, sub_kn → kL, sub_ml → kM
open Go.Dl.CallC renaming mk → kN, light → kO
open Go.Dl.LeL renaming of_eq → kP
open S (usort)
attribute [local irreducible] DW DCalls ECalls wk IW

def TellsS (g : FuncId) (caps : List Dl.C) (p : Sns → Bool) (l : List Sns) : Prop := ∀ s ∈ l, DCalls Tryz.prog g ((.agg s.row) :: caps.map fun c => D.one (.c c)) (dv (lb (p s)))

set_option maxRecDepth 10000 in
set_option maxHeartbeats 2000000 in
theorem idxSK_D (g : FuncId) (caps : List Dl.C) (p : Sns → Bool) (l : List Sns) (ht : TellsS g caps p l) (hl : l.length ≤ 1000000) : DCalls Tryz.prog 84 [dv (.sl 2 (l.map Sns.enc)), dv (.fn g caps)] (dv (li (idxF p l))) := by
  have hmax : maxLen = 9223372036854775807 := rfl
  refine dcalls (N := 19) (rs := [.tmp 4]) (by kernel_rfl) Tryz.func84 rfl rfl rfl (by simp) ?_
  (repeat (first | refine kA ?_ | refine kB ?_ | ((first | (refine kC (N := 19) rfl (by kernel_rfl) ?_) | refine kD ?_ | refine kE ?_); simp +decide only [go_sem])))
  refine dw_rngI l (fun k => kn 19 [(0, dv (.sl 2 (l.map Sns.enc))), (1, dv (.fn g caps)), (7, dv (li l.length)), (8, dv (li k))] noMem) (fun k => ∀ e ∈ l.take k, p e = false) (by omega) (kL rfl (by simp +decide only [go_sem]) (by simp [noMem])) (by simp) ?_ ?_
  · intro k e he hk hm htk hlt hw hi
    have hc := ht e hm
    simp only [Sns.row] at hc
    (repeat' (first | refine kA ?_ | refine kB ?_ | ((first | (refine kC (N := 19) rfl (by kernel_rfl) ?_) | refine kD ?_ | refine kE ?_ | (refine kN (hc) (kP rfl) ?_) | (refine kO (hc) (kP rfl) ?_) | refine kF ?_); simp +decide only [go_sem, hlt, hw, he, Sns.enc]) | (apply kG; (simp +decide only [go_sem, hlt, hw, he, Sns.enc]; rfl); all_goals (intro hcnd; first | (exact absurd hcnd (by decide)) | skip))))
    · rw [idxF_at he hi hcnd]
    · exact ⟨forall_snoc htk hi hcnd, kL rfl (by simp +decide only [go_sem]) (by simp [noMem])⟩
  · intro hlt hi
    rw [List.take_length] at hi
    (repeat' (first | refine kA ?_ | refine kB ?_ | ((first | (refine kC (N := 19) rfl (by kernel_rfl) ?_) | refine kD ?_ | refine kE ?_ | refine kF ?_); simp +decide only [go_sem, hlt]) | (apply kG; (simp +decide only [go_sem, hlt]; rfl); all_goals (intro hcnd; first | (exact absurd hcnd (by decide)) | skip))))
    rw [idxF_no hi]

set_option maxRecDepth 10000 in
theorem conSK_D (g : FuncId) (caps : List Dl.C) (p : Sns → Bool) (l : List Sns) (ht : TellsS g caps p l) (hl : l.length ≤ 1000000) : DCalls Tryz.prog 60 [dv (.sl 2 (l.map Sns.enc)), dv (.fn g caps)] (dv (lb (l.any p))) := by
  refine dcalls (N := 9) (rs := [.tmp 4]) (by kernel_rfl) Tryz.func60 rfl rfl rfl (by simp) ?_
  have h := idxF_any p l
  (repeat' (first | refine kA ?_ | refine kB ?_ | ((first | (refine kC (N := 9) rfl (by kernel_rfl) ?_) | refine kD ?_ | refine kE ?_ | (refine kN (idxSK_D g caps p l ht hl) (kP rfl) ?_) | (refine kO (idxSK_D g caps p l ht hl) (kP rfl) ?_) | refine kF ?_); simp +decide only [go_sem, h]) | (apply kG; (simp +decide only [go_sem, h]; rfl); all_goals (intro hcnd; first | (exact absurd hcnd (by decide)) | skip))))

set_option maxRecDepth 10000 in
theorem gloss11_D (s : Sns) (g : ByteArray) : DCalls Tryz.prog 61 [.agg s.row, dv (.pt [ls g])] (dv (lb (s.gloss == g))) := by
  refine dcalls (N := 8) (rs := [.tmp 3]) (by kernel_rfl) Tryz.func61 rfl rfl rfl (by simp) ?_
  (repeat' (first | refine kA ?_ | refine kB ?_ | ((first | (refine kC (N := 8) rfl (by kernel_rfl) ?_) | refine kD ?_ | refine kE ?_ | refine kF ?_); simp +decide only [go_sem, Sns.row]) | (apply kG; (simp +decide only [go_sem, Sns.row]; rfl); all_goals (intro hcnd; first | (exact absurd hcnd (by decide)) | skip))))

set_option maxRecDepth 10000 in
theorem gloss1_D (e : Ent) (g : ByteArray) (he : e.senses.length ≤ 1000000) : DCalls Tryz.prog 59 [.agg e.row, dv (.pt [ls g])] (dv (lb (hasG e.senses g))) := by
  have h := conSK_D 61 [.pt [ls g]] (fun s => s.gloss == g) e.senses (fun s _ => gloss11_D s g) he
  refine dcalls (N := 8) (rs := [.tmp 3]) (by kernel_rfl) Tryz.func59 rfl rfl rfl (by simp) ?_
  (repeat' (first | refine kA ?_ | refine kB ?_ | ((first | (refine kC (N := 8) rfl (by kernel_rfl) ?_) | refine kD ?_ | refine kE ?_ | (refine kN (h) (kP rfl) ?_) | (refine kO (h) (kP rfl) ?_) | refine kF ?_); simp +decide only [go_sem, Ent.row]) | (apply kG; (simp +decide only [go_sem, Ent.row]; rfl); all_goals (intro hcnd; first | (exact absurd hcnd (by decide)) | skip))))
  rfl

set_option maxRecDepth 10000 in
theorem class1_D (e : Ent) (c : Int) : DCalls Tryz.prog 58 [.agg e.row, dv (.pt [li c])] (dv (lb (e.cls == c))) := by
  refine dcalls (N := 8) (rs := [.tmp 3]) (by kernel_rfl) Tryz.func58 rfl rfl rfl (by simp) ?_
  (repeat' (first | refine kA ?_ | refine kB ?_ | ((first | (refine kC (N := 8) rfl (by kernel_rfl) ?_) | refine kD ?_ | refine kE ?_ | refine kF ?_); simp +decide only [go_sem, Ent.row]) | (apply kG; (simp +decide only [go_sem, Ent.row]; rfl); all_goals (intro hcnd; first | (exact absurd hcnd (by decide)) | skip))))

set_option maxRecDepth 10000 in
theorem form1_D (e : Ent) (w : List Int) (he : MidF e) : DCalls Tryz.prog 55 [.agg e.row, dv (.pt [.sl 1 (ints w)])] (dv (lb (hasA (formsL e) w))) := by
  have h := has_D e w he
  simp only [Ent.row] at h
  refine dcalls (N := 7) (rs := [.tmp 3]) (by kernel_rfl) Tryz.func55 rfl rfl rfl (by simp) ?_
  (repeat' (first | refine kA ?_ | refine kB ?_ | ((first | (refine kC (N := 7) rfl (by kernel_rfl) ?_) | refine kD ?_ | refine kE ?_ | (refine kN (h) (kP rfl) ?_) | (refine kO (h) (kP rfl) ?_) | refine kF ?_); simp +decide only [go_sem, Ent.row]) | (apply kG; (simp +decide only [go_sem, Ent.row]; rfl); all_goals (intro hcnd; first | (exact absurd hcnd (by decide)) | skip))))

set_option maxRecDepth 10000 in
theorem hom1_D (e o : Ent) (he : e.form.length ≤ maxLen) : DCalls Tryz.prog 51 [.agg e.row, dv (.pt o.enc)] (dv (lb (decide (e.form = o.form)))) := by
  have h := eqI_D e.form o.form he
  refine dcalls (N := 9) (rs := [.tmp 3]) (by kernel_rfl) Tryz.func51 rfl rfl rfl (by simp) ?_
  (repeat' (first | refine kA ?_ | refine kB ?_ | ((first | (refine kC (N := 9) rfl (by kernel_rfl) ?_) | refine kD ?_ | refine kE ?_ | (refine kN (h) (kP rfl) ?_) | (refine kO (h) (kP rfl) ?_) | refine kF ?_); simp +decide only [go_sem, Ent.row, Ent.enc]) | (apply kG; (simp +decide only [go_sem, Ent.row, Ent.enc]; rfl); all_goals (intro hcnd; first | (exact absurd hcnd (by decide)) | skip))))

def byForm (l : List Ent) (w : List Int) : List Int := usort (idsOf l fun e => hasA (formsL e) w)
def byClass (l : List Ent) (c : Int) : List Int := usort (idsOf l fun e => e.cls == c)
def byGloss (l : List Ent) (g : ByteArray) : List Int := usort (idsOf l fun e => hasG e.senses g)

set_option maxRecDepth 10000 in
theorem byForm_D (l : List Ent) (w : List Int) (hl : l.length ≤ 1000000) (he : ∀ e ∈ l, MidF e) : DCalls Tryz.prog 23 [dv (.sl 8 (l.map Ent.enc)), dv (.sl 1 (ints w))] (dv (.sl 1 (ints (byForm l w)))) := by
  have h := by_D 55 [.pt [.sl 1 (ints w)]] (fun e => hasA (formsL e) w) l (fun e hm => form1_D e w (he e hm)) hl
  refine dcalls (N := 8) (rs := [.tmp 4]) (by kernel_rfl) Tryz.func23 rfl rfl rfl (by simp) ?_
  (repeat (first | refine kA ?_ | refine kB ?_ | ((first | (refine kC (N := 8) rfl (by kernel_rfl) ?_) | refine kD ?_ | refine kE ?_); simp +decide only [go_sem])))
  refine CallC.frz 3 [.sl 1 (ints w)] (by simp) (by simp +decide only [go_sem]) ?_
  simp +decide only [go_sem]
  (first | (refine kN (h) (kP rfl) ?_) | (refine kO (h) (kP rfl) ?_)); simp +decide only [go_sem]
  refine kF ?_; simp +decide only [go_sem]
  rfl

set_option maxRecDepth 10000 in
theorem byClass_D (l : List Ent) (c : Int) (hl : l.length ≤ 1000000) : DCalls Tryz.prog 25 [dv (.sl 8 (l.map Ent.enc)), dv (li c)] (dv (.sl 1 (ints (byClass l c)))) := by
  have h := by_D 58 [.pt [li c]] (fun e => e.cls == c) l (fun e hm => class1_D e c) hl
  refine dcalls (N := 8) (rs := [.tmp 4]) (by kernel_rfl) Tryz.func25 rfl rfl rfl (by simp) ?_
  (repeat (first | refine kA ?_ | refine kB ?_ | ((first | (refine kC (N := 8) rfl (by kernel_rfl) ?_) | refine kD ?_ | refine kE ?_); simp +decide only [go_sem])))
  refine CallC.frz 3 [li c] (by simp) (by simp +decide only [go_sem]) ?_
  simp +decide only [go_sem]
  (first | (refine kN (h) (kP rfl) ?_) | (refine kO (h) (kP rfl) ?_)); simp +decide only [go_sem]
  refine kF ?_; simp +decide only [go_sem]
  rfl

set_option maxRecDepth 10000 in
theorem byGloss_D (l : List Ent) (g : ByteArray) (hl : l.length ≤ 1000000) (he : ∀ e ∈ l, e.senses.length ≤ 1000000) : DCalls Tryz.prog 27 [dv (.sl 8 (l.map Ent.enc)), dv (ls g)] (dv (.sl 1 (ints (byGloss l g)))) := by
  have h := by_D 59 [.pt [ls g]] (fun e => hasG e.senses g) l (fun e hm => gloss1_D e g (he e hm)) hl
  refine dcalls (N := 8) (rs := [.tmp 4]) (by kernel_rfl) Tryz.func27 rfl rfl rfl (by simp) ?_
  (repeat (first | refine kA ?_ | refine kB ?_ | ((first | (refine kC (N := 8) rfl (by kernel_rfl) ?_) | refine kD ?_ | refine kE ?_); simp +decide only [go_sem])))
  refine CallC.frz 3 [ls g] (by simp) (by simp +decide only [go_sem]) ?_
  simp +decide only [go_sem]
  (first | (refine kN (h) (kP rfl) ?_) | (refine kO (h) (kP rfl) ?_)); simp +decide only [go_sem]
  refine kF ?_; simp +decide only [go_sem]
  rfl
end Go.Proofs.YtdmmhemfnnbddaaGreatDoor

/- Lexicons: the reference's choosing. -/
namespace Go.Proofs.YtdmmhemfnnbddaaGreatDoor
open Go.Dl
open Go.Dl renaming dw_seq → kA, dw_block → kB, dw_reg → kC, dw_skip → kD, dw_exit → kE, dw_ret → kF, dw_cond → kG, guardC_f → kH, guardC_t → kI, dw_drw → kJ, dw_weaken → kK, sub_kn → kL, sub_ml → kM
open Go.Dl.CallC renaming mk → kN, light → kO
open Go.Dl.LeL renaming of_eq → kP
open S (usort)
attribute [local irreducible] DW DCalls ECalls wk IW

theorem low_is {l : List Int} {n : Int} {k : Nat} (hk : k ≤ l.length) (h1 : ∀ x ∈ l.take k, x < n) (h2 : ∀ x, l[k]? = some x → ¬ x < n) : l.takeWhile (fun x => decide (x < n)) = l.take k ∧ l.dropWhile (fun x => decide (x < n)) = l.drop k := by
  induction l generalizing k with
  | nil => simp
  | cons y l ih =>
    cases k with
    | zero =>
      have := h2 y rfl
      simp [List.takeWhile_cons, List.dropWhile_cons, this]
    | succ k =>
      have hy := h1 y (by simp)
      have := ih (k := k) (by simpa using hk) (fun x hx => h1 x (by simp [hx])) (fun x hx => h2 x (by simpa using hx))
      simp [List.takeWhile_cons, List.dropWhile_cons, hy, this]
theorem putI_at {l : List Int} {n : Int} {k : Nat} (hs : l.Pairwise (· < ·)) (hk : k ≤ l.length) (h1 : ∀ x ∈ l.take k, x < n) (h2 : ∀ x, l[k]? = some x → ¬ x < n) :
    putI l n = l.take k ++ n :: l.drop (if l[k]? = some n then k + 1 else k) := by
  obtain ⟨e1, e2⟩ := low_is hk h1 h2
  rw [putI, e1, e2]
  congr 2
  rcases Nat.lt_or_ge k l.length with hlt | hge
  · have hx : l[k]? = some l[k] := List.getElem?_eq_getElem hlt
    rw [List.drop_eq_getElem_cons hlt, hx]
    by_cases he : l[k] = n
    · rw [if_pos (by rw [he]), List.dropWhile_cons, if_pos (by simpa using he)]
      cases hd : l.drop (k + 1) with
      | nil => rfl
      | cons z r =>
        have hz : k + 1 < l.length := by
          have := congrArg List.length hd; simp at this; omega
        have hze : l[k + 1] = z := by
          rw [List.drop_eq_getElem_cons hz] at hd; injection hd
        have := List.pairwise_iff_getElem.1 hs k (k + 1) hlt hz (by omega)
        rw [List.dropWhile_cons, if_neg (by simp; omega)]
    · rw [if_neg (by simpa using he), List.dropWhile_cons, if_neg (by simpa using he), ← List.drop_eq_getElem_cons hlt]
  · rw [List.drop_eq_nil_of_le hge, List.getElem?_eq_none hge]
    simp
    omega

set_option maxRecDepth 10000 in
set_option maxHeartbeats 4000000 in
theorem r1Put_D (l : List Int) (n : Int) (hs : l.Pairwise (· < ·)) (hl : l.length ≤ 1000000) : DCalls Tryz.prog 54 [dv (.sl 1 (ints l)), dv (li n)] (dv (.sl 1 (ints (putI l n)))) := by
  have hmax : maxLen = 9223372036854775807 := rfl
  refine dcalls (N := 51) (rs := [.tmp 4]) (by kernel_rfl) Tryz.func54 rfl rfl rfl (by simp) ?_
  (repeat' (first | refine kA ?_ | refine kB ?_ | ((first | (refine kC (N := 51) rfl (by kernel_rfl) ?_) | refine kD ?_ | refine kE ?_); simp +decide only [go_sem]) | (apply kG; (simp +decide only [go_sem]; rfl); all_goals (intro hcnd; first | (exact absurd hcnd (by decide)) | skip)) | ((first | refine kH ?_ ?_ | refine kI ?_ ?_) <;> (intro hcnd; simp +decide only [go_sem, hcnd]))))
  refine dw_own 5 5 1 (by simp +decide only [go_sem]) ?_
  refine dw_after (fun k : Nat => kn 51 [(0, dv (.sl 1 (ints l))), (1, dv (li n)), (5, .one (.own 5 1 (ints (l.take k)))), (6, dv (li k))] noMem) (fun k => k ≤ l.length ∧ (∀ x ∈ l.take k, x < n) ∧ ∀ x, l[k]? = some x → ¬ x < n) ?_ ?_
  · refine dw_loop_fam (fun k : Nat => kn 51 [(0, dv (.sl 1 (ints l))), (1, dv (li n)), (5, .one (.own 5 1 (ints (l.take k)))), (6, dv (li k))] noMem) (fun k => k ≤ l.length ∧ ∀ x ∈ l.take k, x < n) (fun k => l.length - k) 0 (kL rfl (by simp +decide only [go_sem, List.take_zero, List.map_nil]) (by simp [noMem])) ⟨Nat.zero_le _, by simp⟩ ?_
    rintro k ⟨hk, h1⟩
    cases t1 : decide ((k : Int) < (l.length : Int))
    · have hke : l.length ≤ k := by simpa using t1
      (repeat' (first | refine kA ?_ | refine kB ?_ | ((first | (refine kC (N := 51) rfl (by kernel_rfl) ?_) | refine kD ?_ | refine kE ?_); simp +decide only [go_sem, t1]) | (apply kG; (simp +decide only [go_sem, t1]; rfl); all_goals (intro hcnd; first | (exact absurd hcnd (by decide)) | skip)) | ((first | refine kH ?_ ?_ | refine kI ?_ ?_) <;> (intro hcnd; simp +decide only [go_sem, hcnd, t1]))))
      exact ⟨k, ⟨hk, h1, fun x hx => by rw [List.getElem?_eq_none hke] at hx; cases hx⟩, kL rfl (by simp +decide only [go_sem]) (by simp [noMem])⟩
    · have hkl : k < l.length := by simpa using t1
      obtain ⟨x, hx⟩ : ∃ x, l[k]? = some x := ⟨_, List.getElem?_eq_getElem hkl⟩
      have hw := wrap_succ k (by omega)
      have r1 : (((l.take k).length + 1) * 8 ≤ 140737488355328) = True := eq_true (by rw [List.length_take]; omega)
      cases t2 : decide (x < n)
      · (repeat' (first | refine kA ?_ | refine kB ?_ | ((first | (refine kC (N := 51) rfl (by kernel_rfl) ?_) | refine kD ?_ | refine kE ?_); simp +decide only [go_sem, t1, t2, hx]) | (apply kG; (simp +decide only [go_sem, t1, t2, hx]; rfl); all_goals (intro hcnd; first | (exact absurd hcnd (by decide)) | skip)) | ((first | refine kH ?_ ?_ | refine kI ?_ ?_) <;> (intro hcnd; simp +decide only [go_sem, hcnd, t1, t2, hx]))))
        exact ⟨k, ⟨hk, h1, fun y hy => by rw [hx] at hy; injection hy with hy; subst hy; simpa using t2⟩, kL rfl (by simp +decide only [go_sem]) (by simp [noMem])⟩
      · have htk : l.take (k + 1) = l.take k ++ [x] := take_snoc hx
        (repeat' (first | refine kA ?_ | refine kB ?_ | ((first | (refine kC (N := 51) rfl (by kernel_rfl) ?_) | refine kD ?_ | refine kE ?_); simp +decide only [go_sem, t1, t2, hx, hw, r1]) | (apply kG; (simp +decide only [go_sem, t1, t2, hx, hw, r1]; rfl); all_goals (intro hcnd; first | (exact absurd hcnd (by decide)) | skip)) | ((first | refine kH ?_ ?_ | refine kI ?_ ?_) <;> (intro hcnd; simp +decide only [go_sem, hcnd, t1, t2, hx, hw, r1]))))
        exact ⟨k + 1, ⟨by omega, fun y hy => by
          rw [htk] at hy
          rcases List.mem_append.1 hy with hy | hy
          · exact h1 y hy
          · rw [List.mem_singleton.1 hy]; simpa using t2⟩, by omega, kL rfl (by simp +decide only [go_sem, htk, List.map_append]) (by simp [noMem])⟩
  rintro k ⟨hk, h1, h2⟩
  have hput := putI_at hs hk h1 h2
  have r1 : (((l.take k).length + 1) * 8 ≤ 140737488355328) = True := eq_true (by rw [List.length_take]; omega)
  have hw := wrap_succ k (by omega)
  have hkk : (l.take k).length = k := by rw [List.length_take]; omega
  have htI : List.take l.length (ints l) = ints l := List.take_of_length_le (by simp)
  have hdI : ∀ m, List.drop m (ints l) = ints (l.drop m) := fun m => by simp [List.map_drop]
  have hfin : ∀ m, ints (l.take k) ++ [[li n]] ++ ints (l.drop m) = ints (l.take k ++ n :: l.drop m) := fun m => by simp
  have r2 : ∀ m, m ≤ l.length → (((l.take k).length + 1 + (l.length - m)) * 8 ≤ 140737488355328) = True := fun m hm => eq_true (by rw [hkk]; omega)
  cases t1 : decide ((k : Int) < (l.length : Int))
  · have hke : l.length ≤ k := by simpa using t1
    have hke2 : k = l.length := by omega
    rw [List.getElem?_eq_none hke, if_neg (by simp)] at hput
    have hlo := r2 k hk
    have hkT : (k ≤ l.length) = True := eq_true hk
    (repeat' (first | refine kA ?_ | refine kB ?_ | ((first | (refine kC (N := 51) rfl (by kernel_rfl) ?_) | refine kD ?_ | refine kE ?_); simp +decide only [go_sem, t1, r1, hlo, hkT, htI, hdI, Int.toNat_natCast, List.length_append, List.length_map, List.length_cons, List.length_nil, List.length_drop]) | (apply kG; (simp +decide only [go_sem, t1, r1, hlo, hkT, htI, hdI, Int.toNat_natCast, List.length_append, List.length_map, List.length_cons, List.length_nil, List.length_drop]; rfl); all_goals (intro hcnd; first | (exact absurd hcnd (by decide)) | skip)) | ((first | refine kH ?_ ?_ | refine kI ?_ ?_) <;> (intro hcnd; simp +decide only [go_sem, hcnd, t1, r1, hlo, hkT, htI, hdI, Int.toNat_natCast, List.length_append, List.length_map, List.length_cons, List.length_nil, List.length_drop]))))
    rw [hput, ← hfin]
    refine dw_slot 4 _ (DLe.own_ _ _ _) ?_
    refine kF ?_; simp +decide only [go_sem]
  · have hkl : k < l.length := by simpa using t1
    obtain ⟨x, hx⟩ : ∃ x, l[k]? = some x := ⟨_, List.getElem?_eq_getElem hkl⟩
    cases t2 : x == n
    · rw [hx, if_neg (by simpa using t2)] at hput
      have hlo := r2 k hk
      have hkT : (k ≤ l.length) = True := eq_true hk
      (repeat' (first | refine kA ?_ | refine kB ?_ | ((first | (refine kC (N := 51) rfl (by kernel_rfl) ?_) | refine kD ?_ | refine kE ?_); simp +decide only [go_sem, t1, hx, t2, r1, hlo, hkT, htI, hdI, Int.toNat_natCast, List.length_append, List.length_map, List.length_cons, List.length_nil, List.length_drop]) | (apply kG; (simp +decide only [go_sem, t1, hx, t2, r1, hlo, hkT, htI, hdI, Int.toNat_natCast, List.length_append, List.length_map, List.length_cons, List.length_nil, List.length_drop]; rfl); all_goals (intro hcnd; first | (exact absurd hcnd (by decide)) | skip)) | ((first | refine kH ?_ ?_ | refine kI ?_ ?_) <;> (intro hcnd; simp +decide only [go_sem, hcnd, t1, hx, t2, r1, hlo, hkT, htI, hdI, Int.toNat_natCast, List.length_append, List.length_map, List.length_cons, List.length_nil, List.length_drop]))))
      rw [hput, ← hfin]
      refine dw_slot 4 _ (DLe.own_ _ _ _) ?_
      refine kF ?_; simp +decide only [go_sem]
    · rw [hx, if_pos (by simpa using t2)] at hput
      have hlo := r2 (k + 1) hkl
      have hkT : (k + 1 ≤ l.length) = True := eq_true hkl
      (repeat' (first | refine kA ?_ | refine kB ?_ | ((first | (refine kC (N := 51) rfl (by kernel_rfl) ?_) | refine kD ?_ | refine kE ?_); simp +decide only [go_sem, t1, hx, t2, hw, r1, hlo, hkT, htI, hdI, Int.toNat_natCast, List.length_append, List.length_map, List.length_cons, List.length_nil, List.length_drop]) | (apply kG; (simp +decide only [go_sem, t1, hx, t2, hw, r1, hlo, hkT, htI, hdI, Int.toNat_natCast, List.length_append, List.length_map, List.length_cons, List.length_nil, List.length_drop]; rfl); all_goals (intro hcnd; first | (exact absurd hcnd (by decide)) | skip)) | ((first | refine kH ?_ ?_ | refine kI ?_ ?_) <;> (intro hcnd; simp +decide only [go_sem, hcnd, t1, hx, t2, hw, r1, hlo, hkT, htI, hdI, Int.toNat_natCast, List.length_append, List.length_map, List.length_cons, List.length_nil, List.length_drop]))))
      rw [hput, ← hfin]
      refine dw_slot 4 _ (DLe.own_ _ _ _) ?_
      refine kF ?_; simp +decide only [go_sem]

theorem usort_ids_snoc (l : List Ent) (p : Ent → Bool) (e : Ent) : usort (idsOf (l ++ [e]) p) = if p e = true then putI (usort (idsOf l p)) e.id else usort (idsOf l p) := by
  rw [idsOf_snoc]
  by_cases h : p e = true
  · rw [if_pos h, if_pos h, putI_usort]
  · rw [if_neg h, if_neg h, List.append_nil]
end Go.Proofs.YtdmmhemfnnbddaaGreatDoor

/- Lexicons: the reference's choosing, by form, class and gloss; homonyms. -/
namespace Go.Proofs.YtdmmhemfnnbddaaGreatDoor
open Go.Dl
open Go.Dl renaming dw_seq → kA, dw_block → kB, dw_reg → kC, dw_skip → kD, dw_exit → kE, dw_ret → kF, dw_cond → kG, guardC_f → kH, guardC_t → kI, dw_drw → kJ, dw_weaken → kK, sub_kn → kL, sub_ml → kM
open Go.Dl.CallC renaming mk → kN, light → kO
open Go.Dl.LeL renaming of_eq → kP
open S (usort)
attribute [local irreducible] DW DCalls ECalls wk IW

theorem usort_lenI (xs : List Int) : (usort xs).length ≤ xs.length := S.usort_len xs
theorem put_ok (l : List Ent) (p : Ent → Bool) (n : Int) (hl : l.length ≤ 999999) : DCalls Tryz.prog 54 [dv (.sl 1 (ints (usort (idsOf l p)))), dv (li n)] (dv (.sl 1 (ints (usort (idsOf l p ++ [n]))))) := by
  have h := r1Put_D (usort (idsOf l p)) n (usort_spec _).1 (by have := usort_lenI (idsOf l p); have := idsOf_len l p; omega)
  rwa [putI_usort] at h

set_option maxRecDepth 10000 in
set_option maxHeartbeats 4000000 in
theorem rByForm_D (l : List Ent) (w : List Int) (hl : l.length ≤ 999999) (hm : ∀ e ∈ l, MidF e) : DCalls Tryz.prog 24 [dv (.sl 8 (l.map Ent.enc)), dv (.sl 1 (ints w))] (dv (.sl 1 (ints (byForm l w)))) := by
  have hmax : maxLen = 9223372036854775807 := rfl
  refine dcalls (N := 27) (rs := [.tmp 4]) (by kernel_rfl) Tryz.func24 rfl rfl rfl (by simp) ?_
  (repeat (first | refine kA ?_ | refine kB ?_ | ((first | (refine kC (N := 27) rfl (by kernel_rfl) ?_) | refine kD ?_ | refine kE ?_); simp +decide only [go_sem])))
  refine dw_slot 5 (dv (.sl 1 [])) (by simp +decide only [go_sem]) ?_
  refine dw_rng0 l (fun k => kn 27 [(0, dv (.sl 8 (l.map Ent.enc))), (1, dv (.sl 1 (ints w))), (5, dv (.sl 1 (ints (byForm (l.take k) w)))), (8, dv (li l.length)), (9, dv (li k))] noMem) (by omega) (kL rfl (by simp +decide only [go_sem, List.take_zero, byForm, idsOf_nil, usort_nil, List.map_nil]) (by simp [noMem])) ?_ ?_
  · intro k e he hk hmm htk hlt hw
    have hH := rHas_D e w (hm e hmm)
    have hP := put_ok (l.take k) (fun e => hasA (formsL e) w) e.id (by rw [List.length_take]; omega)
    simp only [Ent.row] at hH
    have hst : byForm (l.take (k + 1)) w = if hasA (formsL e) w = true then usort (idsOf (l.take k) (fun e => hasA (formsL e) w) ++ [e.id]) else byForm (l.take k) w := by
      rw [htk, byForm, idsOf_snoc]
      by_cases h : hasA (formsL e) w = true
      · rw [if_pos h, if_pos h]
      · rw [if_neg h, if_neg h, List.append_nil]; rfl
    cases t1 : hasA (formsL e) w
    · rw [t1] at hH hst
      rw [if_neg (by decide)] at hst
      (repeat' (first | refine kA ?_ | refine kB ?_ | ((first | (refine kC (N := 27) rfl (by kernel_rfl) ?_) | refine kD ?_ | refine kE ?_ | (refine kN (hH) (kP rfl) ?_) | (refine kO (hH) (kP rfl) ?_) | refine kF ?_); simp +decide only [go_sem, hlt, hw, he, Ent.enc]) | (apply kG; (simp +decide only [go_sem, hlt, hw, he, Ent.enc]; rfl); all_goals (intro hcnd; first | (exact absurd hcnd (by decide)) | skip))))
      exact kL rfl (by simp +decide only [go_sem, hst]) (by simp [noMem])
    · rw [t1] at hH hst
      rw [if_pos rfl, byForm] at hst
      (repeat' (first | refine kA ?_ | refine kB ?_ | ((first | (refine kC (N := 27) rfl (by kernel_rfl) ?_) | refine kD ?_ | refine kE ?_ | (refine kN (hH) (kP rfl) ?_) | (refine kO (hH) (kP rfl) ?_) | (refine kN (hP) (kP rfl) ?_) | (refine kO (hP) (kP rfl) ?_) | refine kF ?_); simp +decide only [go_sem, hlt, hw, he, byForm, Ent.enc]) | (apply kG; (simp +decide only [go_sem, hlt, hw, he, byForm, Ent.enc]; rfl); all_goals (intro hcnd; first | (exact absurd hcnd (by decide)) | skip))))
      exact kL rfl (by simp +decide only [go_sem, hst]) (by simp [noMem])
  · intro hlt
    rw [List.take_length]
    (repeat' (first | refine kA ?_ | refine kB ?_ | ((first | (refine kC (N := 27) rfl (by kernel_rfl) ?_) | refine kD ?_ | refine kE ?_ | refine kF ?_); simp +decide only [go_sem, hlt]) | (apply kG; (simp +decide only [go_sem, hlt]; rfl); all_goals (intro hcnd; first | (exact absurd hcnd (by decide)) | skip))))

set_option maxRecDepth 10000 in
set_option maxHeartbeats 4000000 in
theorem rByClass_D (l : List Ent) (c : Int) (hl : l.length ≤ 999999) : DCalls Tryz.prog 26 [dv (.sl 8 (l.map Ent.enc)), dv (li c)] (dv (.sl 1 (ints (byClass l c)))) := by
  have hmax : maxLen = 9223372036854775807 := rfl
  refine dcalls (N := 28) (rs := [.tmp 4]) (by kernel_rfl) Tryz.func26 rfl rfl rfl (by simp) ?_
  (repeat (first | refine kA ?_ | refine kB ?_ | ((first | (refine kC (N := 28) rfl (by kernel_rfl) ?_) | refine kD ?_ | refine kE ?_); simp +decide only [go_sem])))
  refine dw_slot 5 (dv (.sl 1 [])) (by simp +decide only [go_sem]) ?_
  refine dw_rng0 l (fun k => kn 28 [(0, dv (.sl 8 (l.map Ent.enc))), (1, dv (li c)), (5, dv (.sl 1 (ints (byClass (l.take k) c)))), (8, dv (li l.length)), (9, dv (li k))] noMem) (by omega) (kL rfl (by simp +decide only [go_sem, List.take_zero, byClass, idsOf_nil, usort_nil, List.map_nil]) (by simp [noMem])) ?_ ?_
  · intro k e he hk hmm htk hlt hw
    have hP := put_ok (l.take k) (fun e => e.cls == c) e.id (by rw [List.length_take]; omega)
    have hst : byClass (l.take (k + 1)) c = if (e.cls == c) = true then usort (idsOf (l.take k) (fun e => e.cls == c) ++ [e.id]) else byClass (l.take k) c := by
      rw [htk, byClass, idsOf_snoc]
      by_cases h : (e.cls == c) = true
      · rw [if_pos h, if_pos h]
      · rw [if_neg h, if_neg h, List.append_nil]; rfl
    cases t1 : e.cls == c
    · rw [t1] at hst
      rw [if_neg (by decide)] at hst
      (repeat' (first | refine kA ?_ | refine kB ?_ | ((first | (refine kC (N := 28) rfl (by kernel_rfl) ?_) | refine kD ?_ | refine kE ?_ | refine kF ?_); simp +decide only [go_sem, hlt, hw, he, t1, Ent.enc]) | (apply kG; (simp +decide only [go_sem, hlt, hw, he, t1, Ent.enc]; rfl); all_goals (intro hcnd; first | (exact absurd hcnd (by decide)) | skip))))
      exact kL rfl (by simp +decide only [go_sem, hst]) (by simp [noMem])
    · rw [t1] at hst
      rw [if_pos rfl, byClass] at hst
      (repeat' (first | refine kA ?_ | refine kB ?_ | ((first | (refine kC (N := 28) rfl (by kernel_rfl) ?_) | refine kD ?_ | refine kE ?_ | (refine kN (hP) (kP rfl) ?_) | (refine kO (hP) (kP rfl) ?_) | refine kF ?_); simp +decide only [go_sem, hlt, hw, he, t1, byClass, Ent.enc]) | (apply kG; (simp +decide only [go_sem, hlt, hw, he, t1, byClass, Ent.enc]; rfl); all_goals (intro hcnd; first | (exact absurd hcnd (by decide)) | skip))))
      exact kL rfl (by simp +decide only [go_sem, hst]) (by simp [noMem])
  · intro hlt
    rw [List.take_length]
    (repeat' (first | refine kA ?_ | refine kB ?_ | ((first | (refine kC (N := 28) rfl (by kernel_rfl) ?_) | refine kD ?_ | refine kE ?_ | refine kF ?_); simp +decide only [go_sem, hlt]) | (apply kG; (simp +decide only [go_sem, hlt]; rfl); all_goals (intro hcnd; first | (exact absurd hcnd (by decide)) | skip))))

theorem hasG_snoc (l : List Sns) (s : Sns) (g : ByteArray) : hasG (l ++ [s]) g = (hasG l g || s.gloss == g) := by simp [hasG]
theorem usort_again (xs : List Int) (n : Int) : usort (xs ++ [n] ++ [n]) = usort (xs ++ [n]) := usort_congr fun x => by simp
def glossMid (l : List Ent) (g : ByteArray) (e : Ent) (m : Nat) : List Int := if hasG (e.senses.take m) g = true then usort (idsOf l (fun e => hasG e.senses g) ++ [e.id]) else byGloss l g

set_option maxRecDepth 10000 in
set_option maxHeartbeats 4000000 in
theorem rByGloss_D (l : List Ent) (g : ByteArray) (hl : l.length ≤ 999999) (hm : ∀ e ∈ l, e.senses.length ≤ 1000000) : DCalls Tryz.prog 28 [dv (.sl 8 (l.map Ent.enc)), dv (ls g)] (dv (.sl 1 (ints (byGloss l g)))) := by
  have hmax : maxLen = 9223372036854775807 := rfl
  refine dcalls (N := 43) (rs := [.tmp 4]) (by kernel_rfl) Tryz.func28 rfl rfl rfl (by simp) ?_
  (repeat (first | refine kA ?_ | refine kB ?_ | ((first | (refine kC (N := 43) rfl (by kernel_rfl) ?_) | refine kD ?_ | refine kE ?_); simp +decide only [go_sem])))
  refine dw_slot 5 (dv (.sl 1 [])) (by simp +decide only [go_sem]) ?_
  refine dw_rng0 l (fun k => kn 43 [(0, dv (.sl 8 (l.map Ent.enc))), (1, dv (ls g)), (5, dv (.sl 1 (ints (byGloss (l.take k) g)))), (9, dv (li l.length)), (10, dv (li k))] noMem) (by omega) (kL rfl (by simp +decide only [go_sem, List.take_zero, byGloss, idsOf_nil, usort_nil, List.map_nil]) (by simp [noMem])) ?_ ?_
  · intro k e he hk hmm htk hlt hw
    have hel := hm e hmm
    have hst : byGloss (l.take (k + 1)) g = glossMid (l.take k) g e e.senses.length := by
      rw [glossMid, List.take_length, htk, byGloss, idsOf_snoc]
      by_cases h : hasG e.senses g = true
      · rw [if_pos h, if_pos h]
      · rw [if_neg h, if_neg h, List.append_nil]; rfl
    (repeat' (first | refine kA ?_ | refine kB ?_ | ((first | (refine kC (N := 43) rfl (by kernel_rfl) ?_) | refine kD ?_ | refine kE ?_); simp +decide only [go_sem, hlt, hw, he, Ent.enc]) | (apply kG; (simp +decide only [go_sem, hlt, hw, he, Ent.enc]; rfl); all_goals (intro hcnd; first | (exact absurd hcnd (by decide)) | skip))))
    refine dw_rng0 e.senses (fun m => kn 43 [(0, dv (.sl 8 (l.map Ent.enc))), (1, dv (ls g)), (5, dv (.sl 1 (ints (glossMid (l.take k) g e m)))), (6, dv (li k)), (9, dv (li l.length)), (10, dv (li k)), (18, dv (li e.senses.length)), (19, dv (li m))] noMem) (by omega) (kL rfl (by simp +decide only [go_sem, List.take_zero, glossMid, hasG, List.any_nil]) (by simp [noMem])) ?_ ?_
    · intro m s hs hmk hms htm hlt2 hw2
      have hms2 : glossMid (l.take k) g e (m + 1) = if (s.gloss == g) = true then usort (idsOf (l.take k) (fun e => hasG e.senses g) ++ [e.id]) else glossMid (l.take k) g e m := by
        rw [glossMid, glossMid, htm, hasG_snoc]
        cases hasG (e.senses.take m) g <;> cases s.gloss == g <;> simp
      cases t1 : s.gloss == g
      · rw [t1, if_neg (by decide)] at hms2
        (repeat' (first | refine kA ?_ | refine kB ?_ | ((first | (refine kC (N := 43) rfl (by kernel_rfl) ?_) | refine kD ?_ | refine kE ?_ | refine kF ?_); simp +decide only [go_sem, hlt2, hw2, he, hs, t1, Ent.enc, Sns.enc]) | (apply kG; (simp +decide only [go_sem, hlt2, hw2, he, hs, t1, Ent.enc, Sns.enc]; rfl); all_goals (intro hcnd; first | (exact absurd hcnd (by decide)) | skip))))
        exact kL rfl (by simp +decide only [go_sem, hms2]) (by simp [noMem])
      · rw [t1, if_pos rfl] at hms2
        have hP : DCalls Tryz.prog 54 [dv (.sl 1 (ints (glossMid (l.take k) g e m))), dv (li e.id)] (dv (.sl 1 (ints (usort (idsOf (l.take k) (fun e => hasG e.senses g) ++ [e.id]))))) := by
          rw [glossMid]
          have hlk : (l.take k).length ≤ l.length := by rw [List.length_take]; omega
          by_cases hh : hasG (e.senses.take m) g = true
          · rw [if_pos hh]
            have h := r1Put_D (usort (idsOf (l.take k) (fun e => hasG e.senses g) ++ [e.id])) e.id (usort_spec _).1 (by have q1 := usort_lenI (idsOf (l.take k) (fun e => hasG e.senses g) ++ [e.id]); have q2 := idsOf_len (l.take k) (fun e => hasG e.senses g); rw [List.length_append] at q1; simp only [List.length_cons, List.length_nil] at q1; omega)
            rwa [putI_usort, usort_again] at h
          · rw [if_neg hh]
            exact put_ok (l.take k) _ e.id (by omega)
        (repeat' (first | refine kA ?_ | refine kB ?_ | ((first | (refine kC (N := 43) rfl (by kernel_rfl) ?_) | refine kD ?_ | refine kE ?_ | (refine kN (hP) (kP rfl) ?_) | (refine kO (hP) (kP rfl) ?_) | refine kF ?_); simp +decide only [go_sem, hlt2, hw2, he, hs, t1, Ent.enc, Sns.enc]) | (apply kG; (simp +decide only [go_sem, hlt2, hw2, he, hs, t1, Ent.enc, Sns.enc]; rfl); all_goals (intro hcnd; first | (exact absurd hcnd (by decide)) | skip))))
        exact kL rfl (by simp +decide only [go_sem, hms2]) (by simp [noMem])
    · intro hlt2
      (repeat' (first | refine kA ?_ | refine kB ?_ | ((first | (refine kC (N := 43) rfl (by kernel_rfl) ?_) | refine kD ?_ | refine kE ?_); simp +decide only [go_sem, hlt2, hw]) | (apply kG; (simp +decide only [go_sem, hlt2, hw]; rfl); all_goals (intro hcnd; first | (exact absurd hcnd (by decide)) | skip))))
      exact kL rfl (by simp +decide only [go_sem, hst]) (by simp [noMem])
  · intro hlt
    rw [List.take_length]
    (repeat' (first | refine kA ?_ | refine kB ?_ | ((first | (refine kC (N := 43) rfl (by kernel_rfl) ?_) | refine kD ?_ | refine kE ?_ | refine kF ?_); simp +decide only [go_sem, hlt]) | (apply kG; (simp +decide only [go_sem, hlt]; rfl); all_goals (intro hcnd; first | (exact absurd hcnd (by decide)) | skip))))
end Go.Proofs.YtdmmhemfnnbddaaGreatDoor

/- Lexicons: homonyms. -/
namespace Go.Proofs.YtdmmhemfnnbddaaGreatDoor
open Go.Dl
open Go.Dl renaming dw_seq → kA, dw_block → kB, dw_reg → kC, dw_skip → kD, dw_exit → kE, dw_ret → kF, dw_cond → kG, guardC_f → kH, guardC_t → kI, dw_drw → kJ, dw_weaken → kK, sub_kn → kL, sub_ml → kM
open Go.Dl.CallC renaming mk → kN, light → kO
open Go.Dl.LeL renaming of_eq → kP
open S (usort)
attribute [local irreducible] DW DCalls ECalls wk IW

set_option maxRecDepth 10000 in
set_option maxHeartbeats 4000000 in
theorem idxI_D (xs : List Int) (n : Int) (hx : xs.length ≤ maxLen) : DCalls Tryz.prog 53 [dv (.sl 1 (ints xs)), dv (li n)] (dv (li (idxF (fun x => n == x) xs))) := by
  refine dcalls (N := 19) (rs := [.tmp 4]) (by kernel_rfl) Tryz.func53 rfl rfl rfl (by simp) ?_
  (repeat (first | refine kA ?_ | refine kB ?_ | ((first | (refine kC (N := 19) rfl (by kernel_rfl) ?_) | refine kD ?_ | refine kE ?_); simp +decide only [go_sem])))
  refine dw_rngI xs (fun k => kn 19 [(0, dv (.sl 1 (ints xs))), (1, dv (li n)), (7, dv (li xs.length)), (8, dv (li k))] noMem) (fun k => ∀ x ∈ xs.take k, (n == x) = false) hx (kL rfl (by simp +decide only [go_sem]) (by simp [noMem])) (by simp) ?_ ?_
  · intro k x hx hk hm htk hlt hw hi
    have hx' := ints_at hx
    (repeat' (first | refine kA ?_ | refine kB ?_ | ((first | (refine kC (N := 19) rfl (by kernel_rfl) ?_) | refine kD ?_ | refine kE ?_ | refine kF ?_); simp +decide only [go_sem, hlt, hw, hx']) | (apply kG; (simp +decide only [go_sem, hlt, hw, hx']; rfl); all_goals (intro hcnd; first | (exact absurd hcnd (by decide)) | skip))))
    · rw [idxF_at hx hi hcnd]
    · exact ⟨forall_snoc htk hi hcnd, kL rfl (by simp +decide only [go_sem]) (by simp [noMem])⟩
  · intro hlt hi
    rw [List.take_length] at hi
    (repeat' (first | refine kA ?_ | refine kB ?_ | ((first | (refine kC (N := 19) rfl (by kernel_rfl) ?_) | refine kD ?_ | refine kE ?_ | refine kF ?_); simp +decide only [go_sem, hlt]) | (apply kG; (simp +decide only [go_sem, hlt]; rfl); all_goals (intro hcnd; first | (exact absurd hcnd (by decide)) | skip))))
    rw [idxF_no hi]
def homE (l : List Ent) (id : Int) : Int :=
  if (getE l id).2 = false then 0 else
  if (usort (idsOf l fun e => decide (e.form = (getE l id).1.form))).length < 2 then 0 else idxF (fun x => id == x) (usort (idsOf l fun e => decide (e.form = (getE l id).1.form))) + 1
theorem idxF_rng {α : Type} (q : α → Bool) (l : List α) : -1 ≤ idxF q l ∧ idxF q l ≤ l.length := by
  unfold idxF
  split
  · have := List.findIdx_le_length (p := q) (xs := l); omega
  · omega

set_option maxRecDepth 10000 in
set_option maxHeartbeats 4000000 in
theorem hom_D (l : List Ent) (id : Int) (hl : l.length ≤ 1000000) (hm : ∀ e ∈ l, e.form.length ≤ maxLen) : DCalls Tryz.prog 20 [dv (.sl 8 (l.map Ent.enc)), dv (li id)] (dv (li (homE l id))) := by
  have hmax : maxLen = 9223372036854775807 := rfl
  have hG := get_D l id hl
  unfold homE
  generalize getE l id = p at hG
  obtain ⟨o, b⟩ := p
  have hB := by_D 51 [.pt o.enc] (fun e => decide (e.form = o.form)) l (fun e he => hom1_D e o (hm e he)) hl
  simp only
  generalize hx : usort (idsOf l fun e => decide (e.form = o.form)) = xs at hB
  have hxl : xs.length ≤ 1000000 := by
    rw [← hx]
    have := usort_lenI (idsOf l fun e => decide (e.form = o.form)); have := idsOf_len l (fun e => decide (e.form = o.form)); omega
  have hI := idxI_D xs id (by omega)
  have hr := idxF_rng (fun x => id == x) xs
  have hw : IntKind.i64.wrap (idxF (fun x => id == x) xs + 1) = idxF (fun x => id == x) xs + 1 := wrap_i64 (by omega) (by omega)
  simp only [Ent.row] at hG
  simp only [Ent.enc] at hB
  refine dcalls (N := 26) (rs := [.tmp 4]) (by kernel_rfl) Tryz.func20 rfl rfl rfl (by simp) ?_
  cases b
  · (repeat' (first | refine kA ?_ | refine kB ?_ | ((first | (refine kC (N := 26) rfl (by kernel_rfl) ?_) | refine kD ?_ | refine kE ?_ | (refine kN (hG) (kP rfl) ?_) | (refine kO (hG) (kP rfl) ?_) | refine kF ?_); simp +decide only [go_sem]) | (apply kG; (simp +decide only [go_sem]; rfl); all_goals (intro hcnd; first | (exact absurd hcnd (by decide)) | skip))))
  · (repeat' (first | refine kA ?_ | refine kB ?_ | ((first | (refine kC (N := 26) rfl (by kernel_rfl) ?_) | refine kD ?_ | refine kE ?_ | (refine kN (hG) (kP rfl) ?_) | (refine kO (hG) (kP rfl) ?_)); simp +decide only [go_sem]) | (apply kG; (simp +decide only [go_sem]; rfl); all_goals (intro hcnd; first | (exact absurd hcnd (by decide)) | skip))))
    refine CallC.frz 5 o.enc (by simp [Ent.enc]) (by simp +decide only [go_sem, Ent.enc, List.map_cons, List.map_nil]) ?_
    simp +decide only [go_sem, Ent.enc, List.length_cons, List.length_nil]
    cases t1 : decide ((xs.length : Int) < 2)
    · have n1 : ¬ xs.length < 2 := by simp at t1; omega
      (repeat' (first | refine kA ?_ | refine kB ?_ | ((first | (refine kC (N := 26) rfl (by kernel_rfl) ?_) | refine kD ?_ | refine kE ?_ | (refine kN (hB) (kP rfl) ?_) | (refine kO (hB) (kP rfl) ?_) | (refine kN (hI) (kP rfl) ?_) | (refine kO (hI) (kP rfl) ?_) | refine kF ?_); simp +decide only [go_sem, t1, hw]) | (apply kG; (simp +decide only [go_sem, t1, hw]; rfl); all_goals (intro hcnd; first | (exact absurd hcnd (by decide)) | skip))))
      rw [if_neg n1]
    · have n1 : xs.length < 2 := by simp at t1; omega
      (repeat' (first | refine kA ?_ | refine kB ?_ | ((first | (refine kC (N := 26) rfl (by kernel_rfl) ?_) | refine kD ?_ | refine kE ?_ | (refine kN (hB) (kP rfl) ?_) | (refine kO (hB) (kP rfl) ?_) | (refine kN (hI) (kP rfl) ?_) | (refine kO (hI) (kP rfl) ?_) | refine kF ?_); simp +decide only [go_sem, t1, hw]) | (apply kG; (simp +decide only [go_sem, t1, hw]; rfl); all_goals (intro hcnd; first | (exact absurd hcnd (by decide)) | skip))))
      rw [if_pos n1]

theorem idx_up {l : List Int} (k : Nat) {x : Int} (h : l[k]? = some x) (hi : ∀ y ∈ l.take k, (x == y) = false) : idxF (fun y => x == y) l = (k : Int) := idxF_at h hi (by simp)

set_option maxRecDepth 10000 in
set_option maxHeartbeats 4000000 in
theorem rHom_D (l : List Ent) (id : Int) (hl : l.length ≤ 999999) (hm : ∀ e ∈ l, e.form.length ≤ maxLen) : DCalls Tryz.prog 21 [dv (.sl 8 (l.map Ent.enc)), dv (li id)] (dv (li (homE l id))) := by
  have hmax : maxLen = 9223372036854775807 := rfl
  have hG := rGet_D l id (by omega)
  have hhas := getE_has l id
  have hmem : (getE l id).2 = true → (getE l id).1 ∈ l ∧ (getE l id).1.id = id := fun h => by
    unfold getE at h ⊢
    cases hf : l.find? (fun e => e.id == id) with
    | none => rw [hf] at h; cases h
    | some e => exact ⟨List.mem_of_find?_eq_some hf, by simpa using List.find?_some hf⟩
  unfold homE
  generalize getE l id = p at hG hmem hhas
  obtain ⟨o, b⟩ := p
  simp only [Ent.row] at hG
  refine dcalls (N := 58) (rs := [.tmp 4]) (by kernel_rfl) Tryz.func21 rfl rfl rfl (by simp) ?_
  cases b
  · (repeat' (first | refine kA ?_ | refine kB ?_ | ((first | (refine kC (N := 58) rfl (by kernel_rfl) ?_) | (apply kJ (id := 8) (N := 58) kpm7; kernel_rfl; rfl; kernel_rfl; (repeat (first | exact Picks.nil | (apply Picks.cons; rfl)))) | refine kD ?_ | refine kE ?_ | (refine kN (hG) (kP rfl) ?_) | (refine kO (hG) (kP rfl) ?_) | refine kF ?_); simp +decide only [go_sem]) | (apply kG; (simp +decide only [go_sem]; rfl); all_goals (intro hcnd; first | (exact absurd hcnd (by decide)) | skip)) | ((first | refine kH ?_ ?_ | refine kI ?_ ?_) <;> (intro hcnd; simp +decide only [go_sem, hcnd]))))
  · obtain ⟨ho, hoid⟩ := hmem rfl
    simp only at ho hoid
    (repeat' (first | refine kA ?_ | refine kB ?_ | ((first | (refine kC (N := 58) rfl (by kernel_rfl) ?_) | (apply kJ (id := 8) (N := 58) kpm7; kernel_rfl; rfl; kernel_rfl; (repeat (first | exact Picks.nil | (apply Picks.cons; rfl)))) | refine kD ?_ | refine kE ?_ | (refine kN (hG) (kP rfl) ?_) | (refine kO (hG) (kP rfl) ?_)); simp +decide only [go_sem]) | (apply kG; (simp +decide only [go_sem]; rfl); all_goals (intro hcnd; first | (exact absurd hcnd (by decide)) | skip)) | ((first | refine kH ?_ ?_ | refine kI ?_ ?_) <;> (intro hcnd; simp +decide only [go_sem, hcnd]))))
    refine dw_slot 7 (dv (.sl 1 [])) (by simp +decide only [go_sem]) ?_
    refine dw_after (fun _ : Unit => kn 58 [(1, dv (li id)), (7, dv (.sl 1 (ints (usort (idsOf l fun e => decide (e.form = o.form))))))] noMem) (fun _ => True) ?_ ?_
    · refine dw_rng0 l (fun k => kn 58 [(0, dv (.sl 8 (l.map Ent.enc))), (1, dv (li id)), (5, .one (.bx 5 8 0 0)), (7, dv (.sl 1 (ints (usort (idsOf (l.take k) fun e => decide (e.form = o.form)))))), (19, dv (li l.length)), (20, dv (li k))] (ml [(5, [o.row])])) (by omega) (kM rfl (by simp +decide only [go_sem, List.take_zero, idsOf_nil, usort_nil, List.map_nil]) (by simp +decide only [go_sem, Ent.row])) ?_ ?_
      · intro k e he hk hmm htk hlt hw
        have hS := sameI_D e.form o.form (hm e hmm)
        have hP := put_ok (l.take k) (fun e => decide (e.form = o.form)) e.id (by rw [List.length_take]; omega)
        have hst : usort (idsOf (l.take (k + 1)) fun e => decide (e.form = o.form)) = if decide (e.form = o.form) = true then usort (idsOf (l.take k) (fun e => decide (e.form = o.form)) ++ [e.id]) else usort (idsOf (l.take k) fun e => decide (e.form = o.form)) := by
          rw [htk, idsOf_snoc]
          by_cases h : decide (e.form = o.form) = true
          · rw [if_pos h, if_pos h]
          · rw [if_neg h, if_neg h, List.append_nil]
        cases t1 : decide (e.form = o.form)
        · rw [t1] at hS hst
          rw [if_neg (by decide)] at hst
          (repeat' (first | refine kA ?_ | refine kB ?_ | ((first | (refine kC (N := 58) rfl (by kernel_rfl) ?_) | (apply kJ (id := 8) (N := 58) kpm7; kernel_rfl; rfl; kernel_rfl; (repeat (first | exact Picks.nil | (apply Picks.cons; rfl)))) | refine kD ?_ | refine kE ?_ | (refine kN (hS) (kP rfl) ?_) | (refine kO (hS) (kP rfl) ?_) | refine kF ?_); simp +decide only [go_sem, hlt, hw, he, Ent.enc, Ent.row]) | (apply kG; (simp +decide only [go_sem, hlt, hw, he, Ent.enc, Ent.row]; rfl); all_goals (intro hcnd; first | (exact absurd hcnd (by decide)) | skip)) | ((first | refine kH ?_ ?_ | refine kI ?_ ?_) <;> (intro hcnd; simp +decide only [go_sem, hcnd, hlt, hw, he, Ent.enc, Ent.row]))))
          exact kM rfl (by simp +decide only [go_sem, hst]) (by simp +decide only [go_sem, Ent.row])
        · rw [t1] at hS hst
          rw [if_pos rfl] at hst
          (repeat' (first | refine kA ?_ | refine kB ?_ | ((first | (refine kC (N := 58) rfl (by kernel_rfl) ?_) | (apply kJ (id := 8) (N := 58) kpm7; kernel_rfl; rfl; kernel_rfl; (repeat (first | exact Picks.nil | (apply Picks.cons; rfl)))) | refine kD ?_ | refine kE ?_ | (refine kN (hS) (kP rfl) ?_) | (refine kO (hS) (kP rfl) ?_) | (refine kN (hP) (kP rfl) ?_) | (refine kO (hP) (kP rfl) ?_) | refine kF ?_); simp +decide only [go_sem, hlt, hw, he, Ent.enc, Ent.row]) | (apply kG; (simp +decide only [go_sem, hlt, hw, he, Ent.enc, Ent.row]; rfl); all_goals (intro hcnd; first | (exact absurd hcnd (by decide)) | skip)) | ((first | refine kH ?_ ?_ | refine kI ?_ ?_) <;> (intro hcnd; simp +decide only [go_sem, hcnd, hlt, hw, he, Ent.enc, Ent.row]))))
          exact kM rfl (by simp +decide only [go_sem, hst]) (by simp +decide only [go_sem, Ent.row])
      · intro hlt
        rw [List.take_length]
        (repeat' (first | refine kA ?_ | refine kB ?_ | ((first | (refine kC (N := 58) rfl (by kernel_rfl) ?_) | (apply kJ (id := 8) (N := 58) kpm7; kernel_rfl; rfl; kernel_rfl; (repeat (first | exact Picks.nil | (apply Picks.cons; rfl)))) | refine kD ?_ | refine kE ?_); simp +decide only [go_sem, hlt]) | (apply kG; (simp +decide only [go_sem, hlt]; rfl); all_goals (intro hcnd; first | (exact absurd hcnd (by decide)) | skip)) | ((first | refine kH ?_ ?_ | refine kI ?_ ?_) <;> (intro hcnd; simp +decide only [go_sem, hcnd, hlt]))))
        exact ⟨(), kL rfl (by simp +decide only [go_sem]) (by simp [noMem])⟩
    rintro _ _
    have hid : id ∈ usort (idsOf l fun e => decide (e.form = o.form)) := ((usort_spec _).2 id).2 (mem_ids.2 ⟨o, ho, by simp, hoid⟩)
    have hup := (usort_spec (idsOf l fun e => decide (e.form = o.form))).1
    have hlen : (usort (idsOf l fun e => decide (e.form = o.form))).length ≤ 999999 := by
      have := usort_lenI (idsOf l fun e => decide (e.form = o.form)); have := idsOf_len l (fun e => decide (e.form = o.form)); omega
    generalize usort (idsOf l fun e => decide (e.form = o.form)) = xs at hid hup hlen
    (repeat' (first | refine kA ?_ | refine kB ?_ | ((first | (refine kC (N := 58) rfl (by kernel_rfl) ?_) | (apply kJ (id := 8) (N := 58) kpm7; kernel_rfl; rfl; kernel_rfl; (repeat (first | exact Picks.nil | (apply Picks.cons; rfl)))) | refine kD ?_ | refine kE ?_); simp +decide only [go_sem]) | (apply kG; (simp +decide only [go_sem]; rfl); all_goals (intro hcnd; first | (exact absurd hcnd (by decide)) | skip)) | ((first | refine kH ?_ ?_ | refine kI ?_ ?_) <;> (intro hcnd; simp +decide only [go_sem, hcnd]))))
    refine dw_rngI xs (fun k => kn 58 [(1, dv (li id)), (7, dv (.sl 1 (ints xs))), (40, dv (li xs.length)), (41, dv (li k))] noMem) (fun k => xs.length < 2 ∨ ∀ y ∈ xs.take k, (id == y) = false) (by omega) (kL rfl (by simp +decide only [go_sem]) (by simp [noMem])) (.inr (by simp)) ?_ ?_
    · intro k x hx hk hmm htk hlt hw hi
      cases t1 : x == id
      · (repeat' (first | refine kA ?_ | refine kB ?_ | ((first | (refine kC (N := 58) rfl (by kernel_rfl) ?_) | (apply kJ (id := 8) (N := 58) kpm7; kernel_rfl; rfl; kernel_rfl; (repeat (first | exact Picks.nil | (apply Picks.cons; rfl)))) | refine kD ?_ | refine kE ?_ | refine kF ?_); simp +decide only [go_sem, hlt, hw, hx, t1]) | (apply kG; (simp +decide only [go_sem, hlt, hw, hx, t1]; rfl); all_goals (intro hcnd; first | (exact absurd hcnd (by decide)) | skip)) | ((first | refine kH ?_ ?_ | refine kI ?_ ?_) <;> (intro hcnd; simp +decide only [go_sem, hcnd, hlt, hw, hx, t1]))))
        refine ⟨hi.imp (fun h => h) fun h => forall_snoc htk h (by simp at t1 ⊢; omega), kL rfl (by simp +decide only [go_sem]) (by simp [noMem])⟩
      · have hxi : x = id := by simpa using t1
        cases t2 : decide ((1 : Int) < (xs.length : Int))
        · have n2 : xs.length < 2 := by simp at t2; omega
          (repeat' (first | refine kA ?_ | refine kB ?_ | ((first | (refine kC (N := 58) rfl (by kernel_rfl) ?_) | (apply kJ (id := 8) (N := 58) kpm7; kernel_rfl; rfl; kernel_rfl; (repeat (first | exact Picks.nil | (apply Picks.cons; rfl)))) | refine kD ?_ | refine kE ?_ | refine kF ?_); simp +decide only [go_sem, hlt, hw, hx, t1, t2]) | (apply kG; (simp +decide only [go_sem, hlt, hw, hx, t1, t2]; rfl); all_goals (intro hcnd; first | (exact absurd hcnd (by decide)) | skip)) | ((first | refine kH ?_ ?_ | refine kI ?_ ?_) <;> (intro hcnd; simp +decide only [go_sem, hcnd, hlt, hw, hx, t1, t2]))))
          exact ⟨.inl n2, kL rfl (by simp +decide only [go_sem]) (by simp [noMem])⟩
        · have n2 : ¬ xs.length < 2 := by simp at t2; omega
          have hidx : idxF (fun y => id == y) xs = (k : Int) := by
            rw [← hxi]
            exact idx_up k hx fun y hy => by rw [hxi]; exact (hi.resolve_left n2) y hy
          (repeat' (first | refine kA ?_ | refine kB ?_ | ((first | (refine kC (N := 58) rfl (by kernel_rfl) ?_) | (apply kJ (id := 8) (N := 58) kpm7; kernel_rfl; rfl; kernel_rfl; (repeat (first | exact Picks.nil | (apply Picks.cons; rfl)))) | refine kD ?_ | refine kE ?_ | refine kF ?_); simp +decide only [go_sem, hlt, hw, hx, t1, t2]) | (apply kG; (simp +decide only [go_sem, hlt, hw, hx, t1, t2]; rfl); all_goals (intro hcnd; first | (exact absurd hcnd (by decide)) | skip)) | ((first | refine kH ?_ ?_ | refine kI ?_ ?_) <;> (intro hcnd; simp +decide only [go_sem, hcnd, hlt, hw, hx, t1, t2]))))
          rw [if_neg n2, hidx]; simp
    · intro hlt hi
      rw [List.take_length] at hi
      have n2 : xs.length < 2 := hi.resolve_right fun h => by have := h id hid; simp at this
      (repeat' (first | refine kA ?_ | refine kB ?_ | ((first | (refine kC (N := 58) rfl (by kernel_rfl) ?_) | (apply kJ (id := 8) (N := 58) kpm7; kernel_rfl; rfl; kernel_rfl; (repeat (first | exact Picks.nil | (apply Picks.cons; rfl)))) | refine kD ?_ | refine kE ?_ | refine kF ?_); simp +decide only [go_sem, hlt]) | (apply kG; (simp +decide only [go_sem, hlt]; rfl); all_goals (intro hcnd; first | (exact absurd hcnd (by decide)) | skip)) | ((first | refine kH ?_ ?_ | refine kI ?_ ?_) <;> (intro hcnd; simp +decide only [go_sem, hcnd, hlt]))))
      rw [if_pos n2]
end Go.Proofs.YtdmmhemfnnbddaaGreatDoor

namespace Go.Proofs.YtdmmhemfnnbddaaGreatDoor
abbrev kpm16 : List (Nat × Go.Dl.Mode) := [(0, .light), (1, .light), (2, .light), (3, .light), (4, .light), (5, .light), (6, .light), (7, .light), (8, .light), (9, .light), (10, .light), (11, .light), (12, .light), (13, .light), (14, .light), (15, .light)]
end Go.Proofs.YtdmmhemfnnbddaaGreatDoor
/- Lexicons: what is wrong with a lexicon. -/
namespace Go.Proofs.YtdmmhemfnnbddaaGreatDoor
open Go.Dl
open Go.Dl renaming dw_seq → kA, dw_block → kB, dw_reg → kC, dw_skip → kD, dw_exit → kE, dw_ret → kF, dw_cond → kG, guardC_f → kH, guardC_t → kI, dw_drw → kJ, dw_weaken → kK, sub_kn → kL, sub_ml → kM
open Go.Dl.CallC renaming mk → kN, light → kO
open Go.Dl.LeL renaming of_eq → kP
open S (usort)
attribute [local irreducible] DW DCalls ECalls wk IW

def prevI (l : List Ent) (k : Nat) : Option Int := if k = 0 then none else (l[k - 1]?).map (·.id)
theorem prevI_zero (l : List Ent) : prevI l 0 = none := rfl
theorem prevI_succ {l : List Ent} {k : Nat} {e : Ent} (h : l[k]? = some e) : prevI l (k + 1) = some e.id := by simp [prevI, h]
theorem lexE_full {g : List Phon} {l : List Ent} (h : 100 < l.length) : lexE g l = 11 := by rw [lexE, if_pos h]
theorem lexE_ord {g : List Phon} {l : List Ent} (h : ¬ 100 < l.length) {n : Int} (hn : ordL g none l = n) (h0 : n ≠ 0) : lexE g l = n := by rw [lexE, if_neg h, hn, if_pos h0]
theorem lexE_none {g : List Phon} {l : List Ent} (h : ¬ 100 < l.length) (hn : ordL g none l = 0) {e : Ent} (he : e ∈ l) (hr : refsIn l e = false) : lexE g l = 9 := by
  rw [lexE, if_neg h, hn, if_neg (by decide), if_neg]
  intro h2
  have h3 := List.all_eq_true.1 h2 e he
  rw [hr] at h3; cases h3
theorem lexE_ok {g : List Phon} {l : List Ent} (h : ¬ 100 < l.length) (hn : ordL g none l = 0) (hr : ∀ e ∈ l, refsIn l e = true) : lexE g l = 0 := by
  rw [lexE, if_neg h, hn, if_neg (by decide), if_pos (List.all_eq_true.2 hr)]
theorem refs_main {l : List Ent} {e : Ent} (h1 : (e.main == 0) = false) (h2 : hasId l e.main = false) : refsIn l e = false := by simp [refsIn, h1, h2]
theorem refs_link {l : List Ent} {e : Ent} {x : Lnk} (hx : x ∈ e.links) (h2 : hasId l x.tgt = false) : refsIn l e = false := by
  rw [refsIn, Bool.and_eq_false_iff]
  exact .inr (List.all_eq_false.2 ⟨x, hx, by simp [h2]⟩)

set_option maxRecDepth 10000 in
set_option maxHeartbeats 8000000 in
theorem rCheckL_D (g : List Phon) (l : List Ent) (hm : ∀ e ∈ l, MidE e) : DCalls Tryz.prog 15 [.agg (invRow g), dv (.sl 8 (l.map Ent.enc))] (dv (li (lexE g l))) := by
  have hmax : maxLen = 9223372036854775807 := rfl
  refine dcalls (N := 87) (rs := [.tmp 4]) (by kernel_rfl) Tryz.func15 rfl rfl rfl (by simp) ?_
  cases t0 : decide ((100 : Int) < (l.length : Int))
  rotate_left
  · (repeat' (first | refine kA ?_ | refine kB ?_ | ((first | (refine kC (N := 87) rfl (by kernel_rfl) ?_) | (apply kJ (id := 6) (N := 87) kpm1; kernel_rfl; rfl; kernel_rfl; (repeat (first | exact Picks.nil | (apply Picks.cons; rfl)))) | (apply kJ (id := 9) (N := 87) kpm16; kernel_rfl; rfl; kernel_rfl; (repeat (first | exact Picks.nil | (apply Picks.cons; rfl)))) | refine kD ?_ | refine kE ?_ | refine kF ?_); simp +decide only [go_sem, t0]) | (apply kG; (simp +decide only [go_sem, t0]; rfl); all_goals (intro hcnd; first | (exact absurd hcnd (by decide)) | skip)) | ((first | refine kH ?_ ?_ | refine kI ?_ ?_) <;> (intro hcnd; simp +decide only [go_sem, hcnd, t0]))))
    rw [lexE_full (by simp at t0; omega)]
  have h0 : ¬ 100 < l.length := by simp at t0; omega
  (repeat' (first | refine kA ?_ | refine kB ?_ | ((first | (refine kC (N := 87) rfl (by kernel_rfl) ?_) | (apply kJ (id := 6) (N := 87) kpm1; kernel_rfl; rfl; kernel_rfl; (repeat (first | exact Picks.nil | (apply Picks.cons; rfl)))) | (apply kJ (id := 9) (N := 87) kpm16; kernel_rfl; rfl; kernel_rfl; (repeat (first | exact Picks.nil | (apply Picks.cons; rfl)))) | refine kD ?_ | refine kE ?_); simp +decide only [go_sem, t0, invRow]) | (apply kG; (simp +decide only [go_sem, t0, invRow]; rfl); all_goals (intro hcnd; first | (exact absurd hcnd (by decide)) | skip)) | ((first | refine kH ?_ ?_ | refine kI ?_ ?_) <;> (intro hcnd; simp +decide only [go_sem, hcnd, t0, invRow]))))
  refine dw_rngI l (fun k => kn 87 [(1, dv (.sl 8 (l.map Ent.enc))), (2, .one (.bx 2 1 0 0)), (13, dv (li l.length)), (14, dv (li k))] (ml [(2, [invRow g])])) (fun k => ordL g (prevI l k) (l.drop k) = ordL g none l) (by omega) (kM rfl (by simp +decide only [go_sem]) (by simp +decide only [go_sem, invRow])) rfl ?_ ?_
  · intro k e he hk hmm htk hlt hw hi
    have hC := rCheck_D g e (hm e hmm)
    simp only [Ent.row, invRow] at hC
    rw [drop_at he, ordL] at hi
    cases t1 : checkE g e != 0
    rotate_left
    · have n1 : checkE g e ≠ 0 := by simpa using t1
      rw [if_pos n1] at hi
      (repeat' (first | refine kA ?_ | refine kB ?_ | ((first | (refine kC (N := 87) rfl (by kernel_rfl) ?_) | (apply kJ (id := 6) (N := 87) kpm1; kernel_rfl; rfl; kernel_rfl; (repeat (first | exact Picks.nil | (apply Picks.cons; rfl)))) | (apply kJ (id := 9) (N := 87) kpm16; kernel_rfl; rfl; kernel_rfl; (repeat (first | exact Picks.nil | (apply Picks.cons; rfl)))) | refine kD ?_ | refine kE ?_ | (refine kN (hC) (kP rfl) ?_) | (refine kO (hC) (kP rfl) ?_) | refine kF ?_); simp +decide only [go_sem, hlt, hw, he, t1, Ent.enc, invRow]) | (apply kG; (simp +decide only [go_sem, hlt, hw, he, t1, Ent.enc, invRow]; rfl); all_goals (intro hcnd; first | (exact absurd hcnd (by decide)) | skip)) | ((first | refine kH ?_ ?_ | refine kI ?_ ?_) <;> (intro hcnd; simp +decide only [go_sem, hcnd, hlt, hw, he, t1, Ent.enc, invRow]))))
      rw [lexE_ord h0 hi.symm n1]
    have n1 : ¬ checkE g e ≠ 0 := by simpa using t1
    rw [if_neg n1] at hi
    rcases Nat.eq_zero_or_pos k with hk0 | hk0
    · have hz : decide ((0 : Int) < (k : Int)) = false := by simp; omega
      have hp0 : prevI l k = none := by rw [hk0]; rfl
      rw [hp0, notUp, if_neg (by decide)] at hi
      (repeat' (first | refine kA ?_ | refine kB ?_ | ((first | (refine kC (N := 87) rfl (by kernel_rfl) ?_) | (apply kJ (id := 6) (N := 87) kpm1; kernel_rfl; rfl; kernel_rfl; (repeat (first | exact Picks.nil | (apply Picks.cons; rfl)))) | (apply kJ (id := 9) (N := 87) kpm16; kernel_rfl; rfl; kernel_rfl; (repeat (first | exact Picks.nil | (apply Picks.cons; rfl)))) | refine kD ?_ | refine kE ?_ | (refine kN (hC) (kP rfl) ?_) | (refine kO (hC) (kP rfl) ?_) | refine kF ?_); simp +decide only [go_sem, hlt, hw, he, t1, hz, Ent.enc, invRow]) | (apply kG; (simp +decide only [go_sem, hlt, hw, he, t1, hz, Ent.enc, invRow]; rfl); all_goals (intro hcnd; first | (exact absurd hcnd (by decide)) | skip)) | ((first | refine kH ?_ ?_ | refine kI ?_ ?_) <;> (intro hcnd; simp +decide only [go_sem, hcnd, hlt, hw, he, t1, hz, Ent.enc, invRow]))))
      exact ⟨by rw [prevI_succ he]; exact hi, kM rfl (by simp +decide only [go_sem]) (by simp +decide only [go_sem, invRow])⟩
    · have hz : decide ((0 : Int) < (k : Int)) = true := by simp; omega
      obtain ⟨p, hp⟩ : ∃ p, l[k - 1]? = some p := ⟨_, List.getElem?_eq_getElem (by omega)⟩
      have hwk : IntKind.wrap .i64 ((k : Int) - 1) = ((k - 1 : Nat) : Int) := by rw [wrap_i64 (by omega) (by omega)]; omega
      have hpi : prevI l k = some p.id := by rw [prevI, if_neg (by omega), hp]; rfl
      rw [hpi, notUp] at hi
      cases t2 : decide (e.id ≤ p.id)
      · rw [t2, if_neg (by decide)] at hi
        (repeat' (first | refine kA ?_ | refine kB ?_ | ((first | (refine kC (N := 87) rfl (by kernel_rfl) ?_) | (apply kJ (id := 6) (N := 87) kpm1; kernel_rfl; rfl; kernel_rfl; (repeat (first | exact Picks.nil | (apply Picks.cons; rfl)))) | (apply kJ (id := 9) (N := 87) kpm16; kernel_rfl; rfl; kernel_rfl; (repeat (first | exact Picks.nil | (apply Picks.cons; rfl)))) | refine kD ?_ | refine kE ?_ | (refine kN (hC) (kP rfl) ?_) | (refine kO (hC) (kP rfl) ?_) | refine kF ?_); simp +decide only [go_sem, hlt, hw, he, hp, hwk, t1, hz, t2, Int.toNat_natCast, Ent.enc, invRow]) | (apply kG; (simp +decide only [go_sem, hlt, hw, he, hp, hwk, t1, hz, t2, Int.toNat_natCast, Ent.enc, invRow]; rfl); all_goals (intro hcnd; first | (exact absurd hcnd (by decide)) | skip)) | ((first | refine kH ?_ ?_ | refine kI ?_ ?_) <;> (intro hcnd; simp +decide only [go_sem, hcnd, hlt, hw, he, hp, hwk, t1, hz, t2, Int.toNat_natCast, Ent.enc, invRow]))))
        exact ⟨by rw [prevI_succ he]; exact hi, kM rfl (by simp +decide only [go_sem]) (by simp +decide only [go_sem, invRow])⟩
      · rw [t2, if_pos rfl] at hi
        (repeat' (first | refine kA ?_ | refine kB ?_ | ((first | (refine kC (N := 87) rfl (by kernel_rfl) ?_) | (apply kJ (id := 6) (N := 87) kpm1; kernel_rfl; rfl; kernel_rfl; (repeat (first | exact Picks.nil | (apply Picks.cons; rfl)))) | (apply kJ (id := 9) (N := 87) kpm16; kernel_rfl; rfl; kernel_rfl; (repeat (first | exact Picks.nil | (apply Picks.cons; rfl)))) | refine kD ?_ | refine kE ?_ | (refine kN (hC) (kP rfl) ?_) | (refine kO (hC) (kP rfl) ?_) | refine kF ?_); simp +decide only [go_sem, hlt, hw, he, hp, hwk, t1, hz, t2, Int.toNat_natCast, Ent.enc, invRow]) | (apply kG; (simp +decide only [go_sem, hlt, hw, he, hp, hwk, t1, hz, t2, Int.toNat_natCast, Ent.enc, invRow]; rfl); all_goals (intro hcnd; first | (exact absurd hcnd (by decide)) | skip)) | ((first | refine kH ?_ ?_ | refine kI ?_ ?_) <;> (intro hcnd; simp +decide only [go_sem, hcnd, hlt, hw, he, hp, hwk, t1, hz, t2, Int.toNat_natCast, Ent.enc, invRow]))))
        rw [lexE_ord h0 hi.symm (by decide)]
  intro hlt hord
  rw [List.drop_length] at hord
  replace hord : ordL g none l = 0 := hord.symm
  (repeat' (first | refine kA ?_ | refine kB ?_ | ((first | (refine kC (N := 87) rfl (by kernel_rfl) ?_) | (apply kJ (id := 6) (N := 87) kpm1; kernel_rfl; rfl; kernel_rfl; (repeat (first | exact Picks.nil | (apply Picks.cons; rfl)))) | (apply kJ (id := 9) (N := 87) kpm16; kernel_rfl; rfl; kernel_rfl; (repeat (first | exact Picks.nil | (apply Picks.cons; rfl)))) | refine kD ?_ | refine kE ?_); simp +decide only [go_sem, hlt]) | (apply kG; (simp +decide only [go_sem, hlt]; rfl); all_goals (intro hcnd; first | (exact absurd hcnd (by decide)) | skip)) | ((first | refine kH ?_ ?_ | refine kI ?_ ?_) <;> (intro hcnd; simp +decide only [go_sem, hcnd, hlt]))))
  refine dw_rngI l (fun k => kn 87 [(1, dv (.sl 8 (l.map Ent.enc))), (44, dv (li l.length)), (45, dv (li k))] noMem) (fun k => ∀ e ∈ l.take k, refsIn l e = true) (by omega) (kL rfl (by simp +decide only [go_sem]) (by simp [noMem])) (by simp) ?_ ?_
  · intro k e he hk hmm htk hlt hw hi
    have hM := rHasId_D l e.main (by omega)
    have hel := (hm e hmm).links
    have hgo : (e.main != 0) = false ∨ ((e.main != 0) = true ∧ hasId l e.main = true) ∨ ((e.main != 0) = true ∧ hasId l e.main = false) := by
      cases e.main != 0 <;> cases hasId l e.main <;> simp
    rcases hgo with t1 | ⟨t1, t2⟩ | ⟨t1, t2⟩
    rotate_left 2
    · (repeat' (first | refine kA ?_ | refine kB ?_ | ((first | (refine kC (N := 87) rfl (by kernel_rfl) ?_) | (apply kJ (id := 6) (N := 87) kpm1; kernel_rfl; rfl; kernel_rfl; (repeat (first | exact Picks.nil | (apply Picks.cons; rfl)))) | (apply kJ (id := 9) (N := 87) kpm16; kernel_rfl; rfl; kernel_rfl; (repeat (first | exact Picks.nil | (apply Picks.cons; rfl)))) | refine kD ?_ | refine kE ?_ | (refine kN (hM) (kP rfl) ?_) | (refine kO (hM) (kP rfl) ?_) | refine kF ?_); simp +decide only [go_sem, hlt, hw, he, t1, t2, Ent.enc]) | (apply kG; (simp +decide only [go_sem, hlt, hw, he, t1, t2, Ent.enc]; rfl); all_goals (intro hcnd; first | (exact absurd hcnd (by decide)) | skip)) | ((first | refine kH ?_ ?_ | refine kI ?_ ?_) <;> (intro hcnd; simp +decide only [go_sem, hcnd, hlt, hw, he, t1, t2, Ent.enc]))))
      rw [lexE_none h0 hord hmm (refs_main (by simpa using t1) t2)]
    · have hmn : (e.main == 0 || hasId l e.main) = true := by
        have : e.main = 0 := by simpa using t1
        simp [this]
      (repeat' (first | refine kA ?_ | refine kB ?_ | ((first | (refine kC (N := 87) rfl (by kernel_rfl) ?_) | (apply kJ (id := 6) (N := 87) kpm1; kernel_rfl; rfl; kernel_rfl; (repeat (first | exact Picks.nil | (apply Picks.cons; rfl)))) | (apply kJ (id := 9) (N := 87) kpm16; kernel_rfl; rfl; kernel_rfl; (repeat (first | exact Picks.nil | (apply Picks.cons; rfl)))) | refine kD ?_ | refine kE ?_); simp +decide only [go_sem, hlt, hw, he, t1, Ent.enc]) | (apply kG; (simp +decide only [go_sem, hlt, hw, he, t1, Ent.enc]; rfl); all_goals (intro hcnd; first | (exact absurd hcnd (by decide)) | skip)) | ((first | refine kH ?_ ?_ | refine kI ?_ ?_) <;> (intro hcnd; simp +decide only [go_sem, hcnd, hlt, hw, he, t1, Ent.enc]))))
      refine dw_rngI e.links (fun j => kn 87 [(1, dv (.sl 8 (l.map Ent.enc))), (7, dv (li k)), (44, dv (li l.length)), (45, dv (li k)), (69, dv (li e.links.length)), (70, dv (li j))] noMem) (fun j => ∀ x ∈ e.links.take j, hasId l x.tgt = true) (by omega) (kL rfl (by simp +decide only [go_sem]) (by simp [noMem])) (by simp) ?_ ?_
      · intro j x hx hj hxm htj hlt2 hw2 hi2
        have hX := rHasId_D l x.tgt (by omega)
        cases t3 : hasId l x.tgt
        · (repeat' (first | refine kA ?_ | refine kB ?_ | ((first | (refine kC (N := 87) rfl (by kernel_rfl) ?_) | (apply kJ (id := 6) (N := 87) kpm1; kernel_rfl; rfl; kernel_rfl; (repeat (first | exact Picks.nil | (apply Picks.cons; rfl)))) | (apply kJ (id := 9) (N := 87) kpm16; kernel_rfl; rfl; kernel_rfl; (repeat (first | exact Picks.nil | (apply Picks.cons; rfl)))) | refine kD ?_ | refine kE ?_ | (refine kN (hX) (kP rfl) ?_) | (refine kO (hX) (kP rfl) ?_) | refine kF ?_); simp +decide only [go_sem, hlt2, hw2, he, hx, t3, Ent.enc, Lnk.enc]) | (apply kG; (simp +decide only [go_sem, hlt2, hw2, he, hx, t3, Ent.enc, Lnk.enc]; rfl); all_goals (intro hcnd; first | (exact absurd hcnd (by decide)) | skip)) | ((first | refine kH ?_ ?_ | refine kI ?_ ?_) <;> (intro hcnd; simp +decide only [go_sem, hcnd, hlt2, hw2, he, hx, t3, Ent.enc, Lnk.enc]))))
          rw [lexE_none h0 hord hmm (refs_link hxm t3)]
        · (repeat' (first | refine kA ?_ | refine kB ?_ | ((first | (refine kC (N := 87) rfl (by kernel_rfl) ?_) | (apply kJ (id := 6) (N := 87) kpm1; kernel_rfl; rfl; kernel_rfl; (repeat (first | exact Picks.nil | (apply Picks.cons; rfl)))) | (apply kJ (id := 9) (N := 87) kpm16; kernel_rfl; rfl; kernel_rfl; (repeat (first | exact Picks.nil | (apply Picks.cons; rfl)))) | refine kD ?_ | refine kE ?_ | (refine kN (hX) (kP rfl) ?_) | (refine kO (hX) (kP rfl) ?_) | refine kF ?_); simp +decide only [go_sem, hlt2, hw2, he, hx, t3, Ent.enc, Lnk.enc]) | (apply kG; (simp +decide only [go_sem, hlt2, hw2, he, hx, t3, Ent.enc, Lnk.enc]; rfl); all_goals (intro hcnd; first | (exact absurd hcnd (by decide)) | skip)) | ((first | refine kH ?_ ?_ | refine kI ?_ ?_) <;> (intro hcnd; simp +decide only [go_sem, hcnd, hlt2, hw2, he, hx, t3, Ent.enc, Lnk.enc]))))
          exact ⟨forall_snoc htj hi2 t3, kL rfl (by simp +decide only [go_sem]) (by simp [noMem])⟩
      · intro hlt2 hi2
        rw [List.take_length] at hi2
        have hre : refsIn l e = true := by
          rw [refsIn, hmn, Bool.true_and]; exact List.all_eq_true.2 hi2
        (repeat' (first | refine kA ?_ | refine kB ?_ | ((first | (refine kC (N := 87) rfl (by kernel_rfl) ?_) | (apply kJ (id := 6) (N := 87) kpm1; kernel_rfl; rfl; kernel_rfl; (repeat (first | exact Picks.nil | (apply Picks.cons; rfl)))) | (apply kJ (id := 9) (N := 87) kpm16; kernel_rfl; rfl; kernel_rfl; (repeat (first | exact Picks.nil | (apply Picks.cons; rfl)))) | refine kD ?_ | refine kE ?_ | refine kF ?_); simp +decide only [go_sem, hw, hlt2]) | (apply kG; (simp +decide only [go_sem, hw, hlt2]; rfl); all_goals (intro hcnd; first | (exact absurd hcnd (by decide)) | skip)) | ((first | refine kH ?_ ?_ | refine kI ?_ ?_) <;> (intro hcnd; simp +decide only [go_sem, hcnd, hw, hlt2]))))
        exact ⟨forall_snoc htk hi hre, kL rfl (by simp +decide only [go_sem]) (by simp [noMem])⟩
    · have hmn : (e.main == 0 || hasId l e.main) = true := by simp [t2]
      (repeat' (first | refine kA ?_ | refine kB ?_ | ((first | (refine kC (N := 87) rfl (by kernel_rfl) ?_) | (apply kJ (id := 6) (N := 87) kpm1; kernel_rfl; rfl; kernel_rfl; (repeat (first | exact Picks.nil | (apply Picks.cons; rfl)))) | (apply kJ (id := 9) (N := 87) kpm16; kernel_rfl; rfl; kernel_rfl; (repeat (first | exact Picks.nil | (apply Picks.cons; rfl)))) | refine kD ?_ | refine kE ?_ | (refine kN (hM) (kP rfl) ?_) | (refine kO (hM) (kP rfl) ?_)); simp +decide only [go_sem, hlt, hw, he, t1, t2, Ent.enc]) | (apply kG; (simp +decide only [go_sem, hlt, hw, he, t1, t2, Ent.enc]; rfl); all_goals (intro hcnd; first | (exact absurd hcnd (by decide)) | skip)) | ((first | refine kH ?_ ?_ | refine kI ?_ ?_) <;> (intro hcnd; simp +decide only [go_sem, hcnd, hlt, hw, he, t1, t2, Ent.enc]))))
      refine dw_rngI e.links (fun j => kn 87 [(1, dv (.sl 8 (l.map Ent.enc))), (7, dv (li k)), (44, dv (li l.length)), (45, dv (li k)), (69, dv (li e.links.length)), (70, dv (li j))] noMem) (fun j => ∀ x ∈ e.links.take j, hasId l x.tgt = true) (by omega) (kL rfl (by simp +decide only [go_sem]) (by simp [noMem])) (by simp) ?_ ?_
      · intro j x hx hj hxm htj hlt2 hw2 hi2
        have hX := rHasId_D l x.tgt (by omega)
        cases t3 : hasId l x.tgt
        · (repeat' (first | refine kA ?_ | refine kB ?_ | ((first | (refine kC (N := 87) rfl (by kernel_rfl) ?_) | (apply kJ (id := 6) (N := 87) kpm1; kernel_rfl; rfl; kernel_rfl; (repeat (first | exact Picks.nil | (apply Picks.cons; rfl)))) | (apply kJ (id := 9) (N := 87) kpm16; kernel_rfl; rfl; kernel_rfl; (repeat (first | exact Picks.nil | (apply Picks.cons; rfl)))) | refine kD ?_ | refine kE ?_ | (refine kN (hX) (kP rfl) ?_) | (refine kO (hX) (kP rfl) ?_) | refine kF ?_); simp +decide only [go_sem, hlt2, hw2, he, hx, t3, Ent.enc, Lnk.enc]) | (apply kG; (simp +decide only [go_sem, hlt2, hw2, he, hx, t3, Ent.enc, Lnk.enc]; rfl); all_goals (intro hcnd; first | (exact absurd hcnd (by decide)) | skip)) | ((first | refine kH ?_ ?_ | refine kI ?_ ?_) <;> (intro hcnd; simp +decide only [go_sem, hcnd, hlt2, hw2, he, hx, t3, Ent.enc, Lnk.enc]))))
          rw [lexE_none h0 hord hmm (refs_link hxm t3)]
        · (repeat' (first | refine kA ?_ | refine kB ?_ | ((first | (refine kC (N := 87) rfl (by kernel_rfl) ?_) | (apply kJ (id := 6) (N := 87) kpm1; kernel_rfl; rfl; kernel_rfl; (repeat (first | exact Picks.nil | (apply Picks.cons; rfl)))) | (apply kJ (id := 9) (N := 87) kpm16; kernel_rfl; rfl; kernel_rfl; (repeat (first | exact Picks.nil | (apply Picks.cons; rfl)))) | refine kD ?_ | refine kE ?_ | (refine kN (hX) (kP rfl) ?_) | (refine kO (hX) (kP rfl) ?_) | refine kF ?_); simp +decide only [go_sem, hlt2, hw2, he, hx, t3, Ent.enc, Lnk.enc]) | (apply kG; (simp +decide only [go_sem, hlt2, hw2, he, hx, t3, Ent.enc, Lnk.enc]; rfl); all_goals (intro hcnd; first | (exact absurd hcnd (by decide)) | skip)) | ((first | refine kH ?_ ?_ | refine kI ?_ ?_) <;> (intro hcnd; simp +decide only [go_sem, hcnd, hlt2, hw2, he, hx, t3, Ent.enc, Lnk.enc]))))
          exact ⟨forall_snoc htj hi2 t3, kL rfl (by simp +decide only [go_sem]) (by simp [noMem])⟩
      · intro hlt2 hi2
        rw [List.take_length] at hi2
        have hre : refsIn l e = true := by
          rw [refsIn, hmn, Bool.true_and]; exact List.all_eq_true.2 hi2
        (repeat' (first | refine kA ?_ | refine kB ?_ | ((first | (refine kC (N := 87) rfl (by kernel_rfl) ?_) | (apply kJ (id := 6) (N := 87) kpm1; kernel_rfl; rfl; kernel_rfl; (repeat (first | exact Picks.nil | (apply Picks.cons; rfl)))) | (apply kJ (id := 9) (N := 87) kpm16; kernel_rfl; rfl; kernel_rfl; (repeat (first | exact Picks.nil | (apply Picks.cons; rfl)))) | refine kD ?_ | refine kE ?_ | refine kF ?_); simp +decide only [go_sem, hw, hlt2]) | (apply kG; (simp +decide only [go_sem, hw, hlt2]; rfl); all_goals (intro hcnd; first | (exact absurd hcnd (by decide)) | skip)) | ((first | refine kH ?_ ?_ | refine kI ?_ ?_) <;> (intro hcnd; simp +decide only [go_sem, hcnd, hw, hlt2]))))
        exact ⟨forall_snoc htk hi hre, kL rfl (by simp +decide only [go_sem]) (by simp [noMem])⟩
  · intro hlt hi
    rw [List.take_length] at hi
    (repeat' (first | refine kA ?_ | refine kB ?_ | ((first | (refine kC (N := 87) rfl (by kernel_rfl) ?_) | (apply kJ (id := 6) (N := 87) kpm1; kernel_rfl; rfl; kernel_rfl; (repeat (first | exact Picks.nil | (apply Picks.cons; rfl)))) | (apply kJ (id := 9) (N := 87) kpm16; kernel_rfl; rfl; kernel_rfl; (repeat (first | exact Picks.nil | (apply Picks.cons; rfl)))) | refine kD ?_ | refine kE ?_ | refine kF ?_); simp +decide only [go_sem, hlt]) | (apply kG; (simp +decide only [go_sem, hlt]; rfl); all_goals (intro hcnd; first | (exact absurd hcnd (by decide)) | skip)) | ((first | refine kH ?_ ?_ | refine kI ?_ ?_) <;> (intro hcnd; simp +decide only [go_sem, hcnd, hlt]))))
    rw [lexE_ok h0 hord hi]
end Go.Proofs.YtdmmhemfnnbddaaGreatDoor

/- Lexicons: the check. -/
namespace Go.Proofs.YtdmmhemfnnbddaaGreatDoor
open Go.Dl
open Go.Dl renaming dw_seq → kA, dw_block → kB, dw_reg → kC, dw_skip → kD, dw_exit → kE, dw_ret → kF, dw_cond → kG, guardC_f → kH, guardC_t → kI, dw_drw → kJ, dw_weaken → kK, sub_kn → kL, sub_ml → kM
open Go.Dl.CallC renaming mk → kN, light → kO
open Go.Dl.LeL renaming of_eq → kP
open S (usort)
attribute [local irreducible] DW DCalls ECalls wk IW

def TellsL (g : FuncId) (caps : List Dl.C) (p : Lnk → Bool) (l : List Lnk) : Prop := ∀ s ∈ l, DCalls Tryz.prog g ((.agg s.row) :: caps.map fun c => D.one (.c c)) (dv (lb (p s)))

set_option maxRecDepth 10000 in
set_option maxHeartbeats 2000000 in
theorem idxLK_D (g : FuncId) (caps : List Dl.C) (p : Lnk → Bool) (l : List Lnk) (ht : TellsL g caps p l) (hl : l.length ≤ 1048576) : DCalls Tryz.prog 74 [dv (.sl 2 (l.map Lnk.enc)), dv (.fn g caps)] (dv (li (idxF p l))) := by
  have hmax : maxLen = 9223372036854775807 := rfl
  refine dcalls (N := 19) (rs := [.tmp 4]) (by kernel_rfl) Tryz.func74 rfl rfl rfl (by simp) ?_
  (repeat (first | refine kA ?_ | refine kB ?_ | ((first | (refine kC (N := 19) rfl (by kernel_rfl) ?_) | refine kD ?_ | refine kE ?_); simp +decide only [go_sem])))
  refine dw_rngI l (fun k => kn 19 [(0, dv (.sl 2 (l.map Lnk.enc))), (1, dv (.fn g caps)), (7, dv (li l.length)), (8, dv (li k))] noMem) (fun k => ∀ e ∈ l.take k, p e = false) (by omega) (kL rfl (by simp +decide only [go_sem]) (by simp [noMem])) (by simp) ?_ ?_
  · intro k e he hk hm htk hlt hw hi
    have hc := ht e hm
    simp only [Lnk.row] at hc
    (repeat' (first | refine kA ?_ | refine kB ?_ | ((first | (refine kC (N := 19) rfl (by kernel_rfl) ?_) | refine kD ?_ | refine kE ?_ | (refine kN (hc) (kP rfl) ?_) | (refine kO (hc) (kP rfl) ?_) | refine kF ?_); simp +decide only [go_sem, hlt, hw, he, Lnk.enc]) | (apply kG; (simp +decide only [go_sem, hlt, hw, he, Lnk.enc]; rfl); all_goals (intro hcnd; first | (exact absurd hcnd (by decide)) | skip))))
    · rw [idxF_at he hi hcnd]
    · exact ⟨forall_snoc htk hi hcnd, kL rfl (by simp +decide only [go_sem]) (by simp [noMem])⟩
  · intro hlt hi
    rw [List.take_length] at hi
    (repeat' (first | refine kA ?_ | refine kB ?_ | ((first | (refine kC (N := 19) rfl (by kernel_rfl) ?_) | refine kD ?_ | refine kE ?_ | refine kF ?_); simp +decide only [go_sem, hlt]) | (apply kG; (simp +decide only [go_sem, hlt]; rfl); all_goals (intro hcnd; first | (exact absurd hcnd (by decide)) | skip))))
    rw [idxF_no hi]

set_option maxRecDepth 10000 in
theorem conLK_D (g : FuncId) (caps : List Dl.C) (p : Lnk → Bool) (l : List Lnk) (ht : TellsL g caps p l) (hl : l.length ≤ 1048576) : DCalls Tryz.prog 44 [dv (.sl 2 (l.map Lnk.enc)), dv (.fn g caps)] (dv (lb (l.any p))) := by
  refine dcalls (N := 9) (rs := [.tmp 4]) (by kernel_rfl) Tryz.func44 rfl rfl rfl (by simp) ?_
  have h := idxF_any p l
  (repeat' (first | refine kA ?_ | refine kB ?_ | ((first | (refine kC (N := 9) rfl (by kernel_rfl) ?_) | refine kD ?_ | refine kE ?_ | (refine kN (idxLK_D g caps p l ht hl) (kP rfl) ?_) | (refine kO (idxLK_D g caps p l ht hl) (kP rfl) ?_) | refine kF ?_); simp +decide only [go_sem, h]) | (apply kG; (simp +decide only [go_sem, h]; rfl); all_goals (intro hcnd; first | (exact absurd hcnd (by decide)) | skip))))

set_option maxRecDepth 10000 in
theorem miss2_D (l : List Ent) (x : Lnk) (hl : l.length ≤ 2000000) : DCalls Tryz.prog 45 [.agg x.row, dv (.pt [.fn 41 [.pt [.sl 8 (l.map Ent.enc)]]])] (dv (lb (!foundE l x.tgt))) := by
  have h := miss_D l x.tgt hl
  refine dcalls (N := 8) (rs := [.tmp 3]) (by kernel_rfl) Tryz.func45 rfl rfl rfl (by simp) ?_
  (repeat' (first | refine kA ?_ | refine kB ?_ | ((first | (refine kC (N := 8) rfl (by kernel_rfl) ?_) | refine kD ?_ | refine kE ?_ | (refine kN (h) (kP rfl) ?_) | (refine kO (h) (kP rfl) ?_) | refine kF ?_); simp +decide only [go_sem, Lnk.row]) | (apply kG; (simp +decide only [go_sem, Lnk.row]; rfl); all_goals (intro hcnd; first | (exact absurd hcnd (by decide)) | skip))))

set_option maxRecDepth 10000 in
set_option maxHeartbeats 8000000 in
theorem checkL_D (g : List Phon) (l : List Ent) (hm : ∀ e ∈ l, e.links.length ≤ 1048576) (hl : l.length ≤ 1000000) : DCalls Tryz.prog 14 [.agg (invRow g), dv (.sl 8 (l.map Ent.enc))] (dv (li (lexE g l))) := by
  have hmax : maxLen = 9223372036854775807 := rfl
  refine dcalls (N := 64) (rs := [.tmp 4]) (by kernel_rfl) Tryz.func14 rfl rfl rfl (by simp) ?_
  cases t0 : decide ((100 : Int) < (l.length : Int))
  rotate_left
  · (repeat' (first | refine kA ?_ | refine kB ?_ | ((first | (refine kC (N := 64) rfl (by kernel_rfl) ?_) | (apply kJ (id := 9) (N := 64) kpm2; kernel_rfl; rfl; kernel_rfl; (repeat (first | exact Picks.nil | (apply Picks.cons; rfl)))) | refine kD ?_ | refine kE ?_ | refine kF ?_); simp +decide only [go_sem, t0]) | (apply kG; (simp +decide only [go_sem, t0]; rfl); all_goals (intro hcnd; first | (exact absurd hcnd (by decide)) | skip)) | ((first | refine kH ?_ ?_ | refine kI ?_ ?_) <;> (intro hcnd; simp +decide only [go_sem, hcnd, t0]))))
    rw [lexE_full (by simp at t0; omega)]
  have h0 : ¬ 100 < l.length := by simp at t0; omega
  (repeat' (first | refine kA ?_ | refine kB ?_ | ((first | (refine kC (N := 64) rfl (by kernel_rfl) ?_) | (apply kJ (id := 9) (N := 64) kpm2; kernel_rfl; rfl; kernel_rfl; (repeat (first | exact Picks.nil | (apply Picks.cons; rfl)))) | refine kD ?_ | refine kE ?_); simp +decide only [go_sem, t0, invRow]) | (apply kG; (simp +decide only [go_sem, t0, invRow]; rfl); all_goals (intro hcnd; first | (exact absurd hcnd (by decide)) | skip)) | ((first | refine kH ?_ ?_ | refine kI ?_ ?_) <;> (intro hcnd; simp +decide only [go_sem, hcnd, t0, invRow]))))
  refine dw_rngI l (fun k => kn 64 [(2, .one (.bx 2 1 0 0)), (3, .one (.bx 3 1 0 0)), (14, dv (.sl 8 (l.map Ent.enc))), (15, dv (li l.length)), (16, dv (li k))] (ml [(2, [invRow g]), (3, [[.c (.sl 8 (l.map Ent.enc))]])])) (fun k => ordL g (prevI l k) (l.drop k) = ordL g none l) (by omega) (kM rfl (by simp +decide only [go_sem]) (by simp +decide only [go_sem, invRow])) rfl ?_ ?_
  · intro k e he hk hmm htk hlt hw hi
    have hC := check_D g e
    simp only [Ent.row, invRow] at hC
    rw [drop_at he, ordL] at hi
    cases t1 : checkE g e != 0
    rotate_left
    · have n1 : checkE g e ≠ 0 := by simpa using t1
      rw [if_pos n1] at hi
      (repeat' (first | refine kA ?_ | refine kB ?_ | ((first | (refine kC (N := 64) rfl (by kernel_rfl) ?_) | (apply kJ (id := 9) (N := 64) kpm2; kernel_rfl; rfl; kernel_rfl; (repeat (first | exact Picks.nil | (apply Picks.cons; rfl)))) | refine kD ?_ | refine kE ?_ | (refine kN (hC) (kP rfl) ?_) | (refine kO (hC) (kP rfl) ?_) | refine kF ?_); simp +decide only [go_sem, hlt, hw, he, t1, Ent.enc, invRow]) | (apply kG; (simp +decide only [go_sem, hlt, hw, he, t1, Ent.enc, invRow]; rfl); all_goals (intro hcnd; first | (exact absurd hcnd (by decide)) | skip)) | ((first | refine kH ?_ ?_ | refine kI ?_ ?_) <;> (intro hcnd; simp +decide only [go_sem, hcnd, hlt, hw, he, t1, Ent.enc, invRow]))))
      rw [lexE_ord h0 hi.symm n1]
    have n1 : ¬ checkE g e ≠ 0 := by simpa using t1
    rw [if_neg n1] at hi
    rcases Nat.eq_zero_or_pos k with hk0 | hk0
    · have hz : decide ((0 : Int) < (k : Int)) = false := by simp; omega
      have hp0 : prevI l k = none := by rw [hk0]; rfl
      rw [hp0, notUp, if_neg (by decide)] at hi
      (repeat' (first | refine kA ?_ | refine kB ?_ | ((first | (refine kC (N := 64) rfl (by kernel_rfl) ?_) | (apply kJ (id := 9) (N := 64) kpm2; kernel_rfl; rfl; kernel_rfl; (repeat (first | exact Picks.nil | (apply Picks.cons; rfl)))) | refine kD ?_ | refine kE ?_ | (refine kN (hC) (kP rfl) ?_) | (refine kO (hC) (kP rfl) ?_) | refine kF ?_); simp +decide only [go_sem, hlt, hw, he, t1, hz, Ent.enc, invRow]) | (apply kG; (simp +decide only [go_sem, hlt, hw, he, t1, hz, Ent.enc, invRow]; rfl); all_goals (intro hcnd; first | (exact absurd hcnd (by decide)) | skip)) | ((first | refine kH ?_ ?_ | refine kI ?_ ?_) <;> (intro hcnd; simp +decide only [go_sem, hcnd, hlt, hw, he, t1, hz, Ent.enc, invRow]))))
      exact ⟨by rw [prevI_succ he]; exact hi, kM rfl (by simp +decide only [go_sem]) (by simp +decide only [go_sem, invRow])⟩
    · have hz : decide ((0 : Int) < (k : Int)) = true := by simp; omega
      obtain ⟨p, hp⟩ : ∃ p, l[k - 1]? = some p := ⟨_, List.getElem?_eq_getElem (by omega)⟩
      have hwk : IntKind.wrap .i64 ((k : Int) - 1) = ((k - 1 : Nat) : Int) := by rw [wrap_i64 (by omega) (by omega)]; omega
      have hpi : prevI l k = some p.id := by rw [prevI, if_neg (by omega), hp]; rfl
      rw [hpi, notUp] at hi
      cases t2 : decide (e.id ≤ p.id)
      · rw [t2, if_neg (by decide)] at hi
        (repeat' (first | refine kA ?_ | refine kB ?_ | ((first | (refine kC (N := 64) rfl (by kernel_rfl) ?_) | (apply kJ (id := 9) (N := 64) kpm2; kernel_rfl; rfl; kernel_rfl; (repeat (first | exact Picks.nil | (apply Picks.cons; rfl)))) | refine kD ?_ | refine kE ?_ | (refine kN (hC) (kP rfl) ?_) | (refine kO (hC) (kP rfl) ?_) | refine kF ?_); simp +decide only [go_sem, hlt, hw, he, hp, hwk, t1, hz, t2, Int.toNat_natCast, Ent.enc, invRow]) | (apply kG; (simp +decide only [go_sem, hlt, hw, he, hp, hwk, t1, hz, t2, Int.toNat_natCast, Ent.enc, invRow]; rfl); all_goals (intro hcnd; first | (exact absurd hcnd (by decide)) | skip)) | ((first | refine kH ?_ ?_ | refine kI ?_ ?_) <;> (intro hcnd; simp +decide only [go_sem, hcnd, hlt, hw, he, hp, hwk, t1, hz, t2, Int.toNat_natCast, Ent.enc, invRow]))))
        exact ⟨by rw [prevI_succ he]; exact hi, kM rfl (by simp +decide only [go_sem]) (by simp +decide only [go_sem, invRow])⟩
      · rw [t2, if_pos rfl] at hi
        (repeat' (first | refine kA ?_ | refine kB ?_ | ((first | (refine kC (N := 64) rfl (by kernel_rfl) ?_) | (apply kJ (id := 9) (N := 64) kpm2; kernel_rfl; rfl; kernel_rfl; (repeat (first | exact Picks.nil | (apply Picks.cons; rfl)))) | refine kD ?_ | refine kE ?_ | (refine kN (hC) (kP rfl) ?_) | (refine kO (hC) (kP rfl) ?_) | refine kF ?_); simp +decide only [go_sem, hlt, hw, he, hp, hwk, t1, hz, t2, Int.toNat_natCast, Ent.enc, invRow]) | (apply kG; (simp +decide only [go_sem, hlt, hw, he, hp, hwk, t1, hz, t2, Int.toNat_natCast, Ent.enc, invRow]; rfl); all_goals (intro hcnd; first | (exact absurd hcnd (by decide)) | skip)) | ((first | refine kH ?_ ?_ | refine kI ?_ ?_) <;> (intro hcnd; simp +decide only [go_sem, hcnd, hlt, hw, he, hp, hwk, t1, hz, t2, Int.toNat_natCast, Ent.enc, invRow]))))
        rw [lexE_ord h0 hi.symm (by decide)]
  intro hlt hord
  rw [List.drop_length] at hord
  replace hord : ordL g none l = 0 := hord.symm
  have hup : UpE l := ((ordL_iff g l none).1 hord).2.1
  (repeat' (first | refine kA ?_ | refine kB ?_ | ((first | (refine kC (N := 64) rfl (by kernel_rfl) ?_) | (apply kJ (id := 9) (N := 64) kpm2; kernel_rfl; rfl; kernel_rfl; (repeat (first | exact Picks.nil | (apply Picks.cons; rfl)))) | refine kD ?_ | refine kE ?_); simp +decide only [go_sem, hlt]) | (apply kG; (simp +decide only [go_sem, hlt]; rfl); all_goals (intro hcnd; first | (exact absurd hcnd (by decide)) | skip)) | ((first | refine kH ?_ ?_ | refine kI ?_ ?_) <;> (intro hcnd; simp +decide only [go_sem, hcnd, hlt]))))
  refine dw_frz1 3 [.sl 8 (l.map Ent.enc)] (by simp) (by simp +decide only [go_sem]) ?_
  refine dw_frz1 8 [.fn 41 [.pt [.sl 8 (l.map Ent.enc)]]] (by simp) (by simp +decide only [go_sem]) ?_
  refine dw_rngI l (fun k => kn 64 [(8, dv (.pt [.fn 41 [.pt [.sl 8 (l.map Ent.enc)]]])), (42, dv (.sl 8 (l.map Ent.enc))), (43, dv (li l.length)), (44, dv (li k))] noMem) (fun k => ∀ e ∈ l.take k, refsIn l e = true) (by omega) (kL rfl (by simp +decide only [go_sem]) (by intro _ _ h; simp [noMem] at h)) (by simp) ?_ ?_
  · intro k e he hk hmm htk hlt hw hi
    have hM := miss_D l e.main (by omega)
    have hF := foundE_eq l e.main hup
    have hA := conLK_D 45 [.pt [.fn 41 [.pt [.sl 8 (l.map Ent.enc)]]]] (fun x => !foundE l x.tgt) e.links (fun x _ => miss2_D l x (by omega)) (hm e hmm)
    have hgo : (e.main != 0) = false ∨ ((e.main != 0) = true ∧ foundE l e.main = true) ∨ ((e.main != 0) = true ∧ foundE l e.main = false) := by
      cases e.main != 0 <;> cases foundE l e.main <;> simp
    rcases hgo with t1 | ⟨t1, t2⟩ | ⟨t1, t2⟩
    rotate_left 2
    · (repeat' (first | refine kA ?_ | refine kB ?_ | ((first | (refine kC (N := 64) rfl (by kernel_rfl) ?_) | (apply kJ (id := 9) (N := 64) kpm2; kernel_rfl; rfl; kernel_rfl; (repeat (first | exact Picks.nil | (apply Picks.cons; rfl)))) | refine kD ?_ | refine kE ?_ | (refine kN (hM) (kP rfl) ?_) | (refine kO (hM) (kP rfl) ?_) | (refine kN (hA) (kP rfl) ?_) | (refine kO (hA) (kP rfl) ?_) | refine kF ?_); simp +decide only [go_sem, hlt, hw, he, t1, t2, Ent.enc]) | (apply kG; (simp +decide only [go_sem, hlt, hw, he, t1, t2, Ent.enc]; rfl); all_goals (intro hcnd; first | (exact absurd hcnd (by decide)) | skip)) | ((first | refine kH ?_ ?_ | refine kI ?_ ?_) <;> (intro hcnd; simp +decide only [go_sem, hcnd, hlt, hw, he, t1, t2, Ent.enc]))))
      rw [lexE_none h0 hord hmm (refs_main (by simpa using t1) (hF ▸ t2))]
    · have hmn : (e.main == 0 || hasId l e.main) = true := by
        have : e.main = 0 := by simpa using t1
        simp [this]
      cases t3 : e.links.any fun x => !foundE l x.tgt
      · have hre : refsIn l e = true := by
          rw [refsIn, hmn, Bool.true_and]; refine List.all_eq_true.2 fun x hx => ?_
          have := List.any_eq_false.1 t3 x hx
          rw [← foundE_eq l x.tgt hup]; simpa using this
        (repeat' (first | refine kA ?_ | refine kB ?_ | ((first | (refine kC (N := 64) rfl (by kernel_rfl) ?_) | (apply kJ (id := 9) (N := 64) kpm2; kernel_rfl; rfl; kernel_rfl; (repeat (first | exact Picks.nil | (apply Picks.cons; rfl)))) | refine kD ?_ | refine kE ?_ | (refine kN (hM) (kP rfl) ?_) | (refine kO (hM) (kP rfl) ?_) | (refine kN (hA) (kP rfl) ?_) | (refine kO (hA) (kP rfl) ?_) | refine kF ?_); simp +decide only [go_sem, hlt, hw, he, t1, t3, Ent.enc]) | (apply kG; (simp +decide only [go_sem, hlt, hw, he, t1, t3, Ent.enc]; rfl); all_goals (intro hcnd; first | (exact absurd hcnd (by decide)) | skip)) | ((first | refine kH ?_ ?_ | refine kI ?_ ?_) <;> (intro hcnd; simp +decide only [go_sem, hcnd, hlt, hw, he, t1, t3, Ent.enc]))))
        exact ⟨forall_snoc htk hi hre, kL rfl (by simp +decide only [go_sem]) (by simp [noMem])⟩
      · obtain ⟨x, hx, hxf⟩ := List.any_eq_true.1 t3
        (repeat' (first | refine kA ?_ | refine kB ?_ | ((first | (refine kC (N := 64) rfl (by kernel_rfl) ?_) | (apply kJ (id := 9) (N := 64) kpm2; kernel_rfl; rfl; kernel_rfl; (repeat (first | exact Picks.nil | (apply Picks.cons; rfl)))) | refine kD ?_ | refine kE ?_ | (refine kN (hM) (kP rfl) ?_) | (refine kO (hM) (kP rfl) ?_) | (refine kN (hA) (kP rfl) ?_) | (refine kO (hA) (kP rfl) ?_) | refine kF ?_); simp +decide only [go_sem, hlt, hw, he, t1, t3, Ent.enc]) | (apply kG; (simp +decide only [go_sem, hlt, hw, he, t1, t3, Ent.enc]; rfl); all_goals (intro hcnd; first | (exact absurd hcnd (by decide)) | skip)) | ((first | refine kH ?_ ?_ | refine kI ?_ ?_) <;> (intro hcnd; simp +decide only [go_sem, hcnd, hlt, hw, he, t1, t3, Ent.enc]))))
        rw [lexE_none h0 hord hmm (refs_link hx (by rw [← foundE_eq l x.tgt hup]; simpa using hxf))]
    · have hmn : (e.main == 0 || hasId l e.main) = true := by rw [← hF, t2]; simp
      cases t3 : e.links.any fun x => !foundE l x.tgt
      · have hre : refsIn l e = true := by
          rw [refsIn, hmn, Bool.true_and]; refine List.all_eq_true.2 fun x hx => ?_
          have := List.any_eq_false.1 t3 x hx
          rw [← foundE_eq l x.tgt hup]; simpa using this
        (repeat' (first | refine kA ?_ | refine kB ?_ | ((first | (refine kC (N := 64) rfl (by kernel_rfl) ?_) | (apply kJ (id := 9) (N := 64) kpm2; kernel_rfl; rfl; kernel_rfl; (repeat (first | exact Picks.nil | (apply Picks.cons; rfl)))) | refine kD ?_ | refine kE ?_ | (refine kN (hM) (kP rfl) ?_) | (refine kO (hM) (kP rfl) ?_) | (refine kN (hA) (kP rfl) ?_) | (refine kO (hA) (kP rfl) ?_) | refine kF ?_); simp +decide only [go_sem, hlt, hw, he, t1, t2, t3, Ent.enc]) | (apply kG; (simp +decide only [go_sem, hlt, hw, he, t1, t2, t3, Ent.enc]; rfl); all_goals (intro hcnd; first | (exact absurd hcnd (by decide)) | skip)) | ((first | refine kH ?_ ?_ | refine kI ?_ ?_) <;> (intro hcnd; simp +decide only [go_sem, hcnd, hlt, hw, he, t1, t2, t3, Ent.enc]))))
        exact ⟨forall_snoc htk hi hre, kL rfl (by simp +decide only [go_sem]) (by simp [noMem])⟩
      · obtain ⟨x, hx, hxf⟩ := List.any_eq_true.1 t3
        (repeat' (first | refine kA ?_ | refine kB ?_ | ((first | (refine kC (N := 64) rfl (by kernel_rfl) ?_) | (apply kJ (id := 9) (N := 64) kpm2; kernel_rfl; rfl; kernel_rfl; (repeat (first | exact Picks.nil | (apply Picks.cons; rfl)))) | refine kD ?_ | refine kE ?_ | (refine kN (hM) (kP rfl) ?_) | (refine kO (hM) (kP rfl) ?_) | (refine kN (hA) (kP rfl) ?_) | (refine kO (hA) (kP rfl) ?_) | refine kF ?_); simp +decide only [go_sem, hlt, hw, he, t1, t2, t3, Ent.enc]) | (apply kG; (simp +decide only [go_sem, hlt, hw, he, t1, t2, t3, Ent.enc]; rfl); all_goals (intro hcnd; first | (exact absurd hcnd (by decide)) | skip)) | ((first | refine kH ?_ ?_ | refine kI ?_ ?_) <;> (intro hcnd; simp +decide only [go_sem, hcnd, hlt, hw, he, t1, t2, t3, Ent.enc]))))
        rw [lexE_none h0 hord hmm (refs_link hx (by rw [← foundE_eq l x.tgt hup]; simpa using hxf))]
  · intro hlt hi
    rw [List.take_length] at hi
    (repeat' (first | refine kA ?_ | refine kB ?_ | ((first | (refine kC (N := 64) rfl (by kernel_rfl) ?_) | (apply kJ (id := 9) (N := 64) kpm2; kernel_rfl; rfl; kernel_rfl; (repeat (first | exact Picks.nil | (apply Picks.cons; rfl)))) | refine kD ?_ | refine kE ?_ | refine kF ?_); simp +decide only [go_sem, hlt]) | (apply kG; (simp +decide only [go_sem, hlt]; rfl); all_goals (intro hcnd; first | (exact absurd hcnd (by decide)) | skip)) | ((first | refine kH ?_ ?_ | refine kI ?_ ?_) <;> (intro hcnd; simp +decide only [go_sem, hcnd, hlt]))))
    rw [lexE_ok h0 hord hi]
end Go.Proofs.YtdmmhemfnnbddaaGreatDoor

namespace Go.Proofs.YtdmmhemfnnbddaaGreatDoor
abbrev kpm17 : List (Nat × Go.Dl.Mode) := [(0, .light), (1, .light), (2, .light), (3, .light), (4, .light), (5, .light), (6, .light), (7, .light), (8, .step)]
end Go.Proofs.YtdmmhemfnnbddaaGreatDoor
/- Lexicons: copies, insertions. -/
namespace Go.Proofs.YtdmmhemfnnbddaaGreatDoor
open Go.Dl
open Go.Dl renaming dw_seq → kA, dw_block → kB, dw_reg → kC, dw_skip → kD, dw_exit → kE, dw_ret → kF, dw_cond → kG, guardC_f → kH, guardC_t → kI, dw_drw → kJ, dw_weaken → kK, sub_kn → kL, sub_ml → kM
open Go.Dl.CallC renaming mk → kN, light → kO
open Go.Dl.LeL renaming of_eq → kP
attribute [local irreducible] DW DCalls ECalls wk IW

set_option maxRecDepth 10000 in
set_option maxHeartbeats 2000000 in
theorem cloneN_E (xs : List (List Dl.C)) (hz : ∀ r ∈ xs, r.length = 8) (hl : xs.length ≤ 1000000) :
    ECalls Tryz.prog 62 [dv (.sl 8 xs)] noMem (fun r H' => ∃ j, r = .one (.ba 0 8 0 xs.length (xs.length + j)) ∧ H' = ml [(0, cr xs ++ anyRows j 8)]) := by
  refine ecalls (N := 8) (rs := [.tmp 2]) (by kernel_rfl) Tryz.func62 rfl rfl rfl (by simp) ?_
  cases xs with
  | nil =>
    refine dw_emp (sz := 8) 0 (by simp +decide only [go_sem]) ?_ (fun a cap hcap => ?_)
    · (repeat (first | refine kA ?_ | refine kB ?_ | ((first | (refine kC (N := 8) rfl (by kernel_rfl) ?_) | refine kD ?_ | refine kE ?_); simp +decide only [go_sem])))
      apply kG; (simp +decide only [go_sem]; rfl)
      · intro _
        (repeat (first | refine kA ?_ | refine kB ?_ | ((first | (refine kC (N := 8) rfl (by kernel_rfl) ?_) | refine kD ?_ | refine kE ?_); simp +decide only [go_sem])))
        refine kK (DS.Sub.trans (sub_zero 2 0 8 (.inl (by simp +decide only [go_sem]))) (kM (N := 8) (sls := [(2, .one (.ba 0 8 0 0 0))]) (bxs := [(0, [])]) rfl (by simp +decide only [go_sem]) (by simp +decide only [go_sem]))) ?_
        refine kF ?_; simp +decide only [go_sem]
        exact ⟨0, rfl, rfl⟩
      · simp
    · (repeat (first | refine kA ?_ | refine kB ?_ | ((first | (refine kC (N := 8) rfl (by kernel_rfl) ?_) | refine kD ?_ | refine kE ?_); simp +decide only [go_sem])))
      apply kG; (simp +decide only [go_sem]; rfl)
      · simp
      intro _
      refine kD ?_
      simp +decide only [go_sem]
      refine kK (s' := kn 8 [(0, dv (.sl 8 []))] noMem) (kL rfl ⟨.inr (by simp +decide only [go_sem]; exact DLe.emp 8 hcap), trivial⟩ (by simp [noMem])) ?_
      refine kA ?_
      refine dw_regM (N := 8) [.hand] rfl (by kernel_rfl) ?_
      simp +decide only [go_sem]
      refine StepC.mk (Step.buildNone (sz := 8) rfl rfl (by simp +decide only [go_sem]) ?_)
      simp +decide only [go_sem]
      refine StepC.mk (Step.appendList (n := 5) (sz := 8) (by_ := 144) (rows := []) (j := 0) (ys := []) rfl rfl (by simp +decide only [go_sem]) (by simp +decide only [go_sem]) (by simp +decide only [go_sem]) (by simp [RowsSz]) (srcSl (ys := []) (by simp +decide only [go_sem])) (by simp) ?_)
      intro j'
      simp +decide only [go_sem]
      (repeat' (first | refine kA ?_ | refine kB ?_ | ((first | (refine kC (N := 8) rfl (by kernel_rfl) ?_) | refine kD ?_ | refine kE ?_); simp +decide only [go_sem]) | (apply kG; (simp +decide only [go_sem]; rfl); all_goals (intro hcnd; first | (exact absurd hcnd (by decide)) | skip))))
      refine kK (DS.Sub.trans (sub_mv 7 0 (by omega)) (kM (N := 8) (sls := [(2, .one (.ba 0 8 0 0 (0 + j')))]) (bxs := [(0, cr [] ++ anyRows j' 8)]) rfl (by simp +decide only [go_sem]) (by simp +decide only [go_sem, cr_nil]))) ?_
      refine kF ?_; simp +decide only [go_sem]
      exact ⟨j', rfl, rfl⟩
  | cons x xs =>
    (repeat (first | refine kA ?_ | refine kB ?_ | ((first | (refine kC (N := 8) rfl (by kernel_rfl) ?_) | refine kD ?_ | refine kE ?_); simp +decide only [go_sem])))
    apply kG; (simp +decide only [go_sem]; rfl)
    · simp
    intro _
    refine kD ?_
    simp +decide only [go_sem]
    refine kA ?_
    refine dw_regM (N := 8) [.hand] rfl (by kernel_rfl) ?_
    simp +decide only [go_sem]
    refine StepC.mk (Step.buildNone (sz := 8) rfl rfl (by simp +decide only [go_sem]) ?_)
    simp +decide only [go_sem]
    refine StepC.mk (Step.appendList (n := 5) (sz := 8) (by_ := 144) (rows := []) (j := 0) (ys := cr (x :: xs)) rfl rfl (by simp +decide only [go_sem]) (by simp +decide only [go_sem]) (by simp +decide only [go_sem]) (by simp [RowsSz]) (srcSl (by simp +decide only [go_sem])) (by simp only [cr_len, List.length_nil]; omega) ?_)
    intro j'
    simp +decide only [go_sem]
    (repeat' (first | refine kA ?_ | refine kB ?_ | ((first | (refine kC (N := 8) rfl (by kernel_rfl) ?_) | refine kD ?_ | refine kE ?_); simp +decide only [go_sem]) | (apply kG; (simp +decide only [go_sem]; rfl); all_goals (intro hcnd; first | (exact absurd hcnd (by decide)) | skip))))
    refine kK (DS.Sub.trans (sub_mv 7 0 (by omega)) (kM (N := 8) (sls := [(2, .one (.ba 0 8 0 (x :: xs).length ((x :: xs).length + j')))]) (bxs := [(0, cr (x :: xs) ++ anyRows j' 8)]) rfl (by simp +decide only [go_sem, cr_len]) (by simp +decide only [go_sem]))) ?_
    refine kF ?_; simp +decide only [go_sem]
    exact ⟨j', rfl, rfl⟩

set_option maxRecDepth 10000 in
set_option maxHeartbeats 8000000 in
theorem insN_E (a : Nat) (xs : List (List Dl.C)) (j : Nat) (v : List Dl.C) (hz : ∀ r ∈ xs, r.length = 8) (hvl : v.length = 8) (i : Nat) (hi : i ≤ xs.length) (hl : xs.length ≤ 100000) :
    ECalls Tryz.prog 63 [.one (.ba 1000 8 0 xs.length (xs.length + j)), dv (li i), .one (.ba (a + NB) 8 0 1 1)] (listMem xs j 8 (a + NB) v)
      (fun r H' => ∃ j', r = .one (.ba 1000 8 0 (xs.length + 1) (xs.length + 1 + j')) ∧ H' = ml [(1000, cr (xs.take i ++ v :: xs.drop i) ++ anyRows j' 8)]) := by
  have hNB := NB_big
  have hmax : (1000000 : Nat) < maxLen := by simp [maxLen]
  have hqn : a + NB ≠ 1000 := by omega
  have le1 : (0 : Nat) ≤ i := Nat.zero_le _
  have hlj : xs.length ≤ xs.length + j := by omega
  have hib : i ≤ xs.length + j := by omega
  have hcl := cr_len xs
  have hzr := cr_sz hz
  have hz2 : RowsSz 8 (cr xs ++ anyRows j 8) := fun r hr => (List.mem_append.1 hr).elim (hzr r) (anyRows_sz j 8 r)
  have hml := listMem_l xs j 8 (a + NB) v
  have hmq := listMem_q xs j 8 a v
  have hvT : (v.map T.c).length = 8 := by simpa using hvl
  refine ecalls (N := 95) (rs := [.tmp 6]) (by kernel_rfl) Tryz.func63 rfl rfl rfl (by simp) ?_
  rcases Nat.lt_or_ge i xs.length with hlt | hge
  · have he : ((i : Int) == (xs.length : Int)) = false := by simp; omega
    have hlt' : i < (cr xs).length := by omega
    have hw1 : IntKind.i64.wrap ((xs.length : Int) + 1) = ((xs.length + 1 : Nat) : Int) := by rw [wrap_i64 (by omega) (by omega)]; rfl
    have hw2 : IntKind.i64.wrap (((xs.length + 1 : Nat) : Int) - (i : Int)) = ((xs.length + 1 - i : Nat) : Int) := by rw [wrap_i64 (by omega) (by omega)]; omega
    have hw3 : IntKind.i64.wrap ((i : Int) + 1) = ((i + 1 : Nat) : Int) := by rw [wrap_i64 (by omega) (by omega)]; rfl
    (repeat (first | refine kA ?_ | refine kB ?_ | ((first | (refine kC (N := 95) rfl (by kernel_rfl) ?_) | (apply kJ (id := 11) (N := 95) kpm17; kernel_rfl; rfl; kernel_rfl; (repeat (first | exact Picks.nil | (apply Picks.cons; rfl)))) | (apply kJ (id := 15) (N := 95) kpm17; kernel_rfl; rfl; kernel_rfl; (repeat (first | exact Picks.nil | (apply Picks.cons; rfl)))) | refine kD ?_ | refine kE ?_); simp +decide only [go_sem, hi, hib, hlj, he])))
    apply kG; (simp +decide only [go_sem]; rfl)
    · simp
    intro _
    (repeat (first | refine kA ?_ | refine kB ?_ | ((first | (refine kC (N := 95) rfl (by kernel_rfl) ?_) | (apply kJ (id := 11) (N := 95) kpm17; kernel_rfl; rfl; kernel_rfl; (repeat (first | exact Picks.nil | (apply Picks.cons; rfl)))) | (apply kJ (id := 15) (N := 95) kpm17; kernel_rfl; rfl; kernel_rfl; (repeat (first | exact Picks.nil | (apply Picks.cons; rfl)))) | refine kD ?_ | refine kE ?_); simp +decide only [go_sem, hi, hib, hlj, he])))
    apply kG; (simp +decide only [go_sem]; rfl)
    · simp
    intro _
    rcases Nat.eq_zero_or_pos j with hj0 | hj0
    · have hg : decide (((xs.length + j : Nat) : Int) < ((xs.length + 1 : Nat) : Int)) = true := by simp; omega
      (repeat (first | refine kA ?_ | refine kB ?_ | ((first | (refine kC (N := 95) rfl (by kernel_rfl) ?_) | (apply kJ (id := 11) (N := 95) kpm17; kernel_rfl; rfl; kernel_rfl; (repeat (first | exact Picks.nil | (apply Picks.cons; rfl)))) | (apply kJ (id := 15) (N := 95) kpm17; kernel_rfl; rfl; kernel_rfl; (repeat (first | exact Picks.nil | (apply Picks.cons; rfl)))) | refine kD ?_ | refine kE ?_); simp +decide only [go_sem, hi, hib, hlj, he, hw1, hg])))
      apply kG; (simp +decide only [go_sem]; rfl)
      · intro _
        have hik : i + (xs.length + 1 - i) = xs.length + 1 := by omega
        have h0i := Nat.zero_le i
        (repeat (first | refine kA ?_ | refine kB ?_ | ((first | (refine kC (N := 95) rfl (by kernel_rfl) ?_) | (apply kJ (id := 11) (N := 95) kpm17; kernel_rfl; rfl; kernel_rfl; (repeat (first | exact Picks.nil | (apply Picks.cons; rfl)))) | (apply kJ (id := 15) (N := 95) kpm17; kernel_rfl; rfl; kernel_rfl; (repeat (first | exact Picks.nil | (apply Picks.cons; rfl)))) | refine kD ?_ | refine kE ?_); simp +decide only [go_sem, hi, hib, hlj, he, hw1, hw2, h0i, Nat.sub_zero])))
        refine StepC.mk (Step.appendMkList (kd := .i64) (n := 1000) (rows := cr xs ++ anyRows j 8) (i := 0) (len := i) (cap := xs.length + j) (k := xs.length + 1 - i) (sz := 8) (by_ := 144) rfl rfl (by simp +decide only [go_sem]) (by simp +decide only [go_sem]) (by simp +decide only [go_sem]) (by simp +decide only [go_sem]) (by simp +decide only [go_sem, hml]) (by simp [cr_len, anyRows_len]) hz2 (by omega) (by omega) (by omega) (by omega) ?_)
        intro j'
        have hik2 : i ≤ xs.length + 1 := by omega
        have hlj2 : xs.length + 1 ≤ xs.length + 1 + j' := by omega
        have ht0 : ((cr xs ++ anyRows j 8).drop 0).take i = cr (xs.take i) := by rw [List.drop_zero, List.take_append_of_le_length (by omega), cr_take]
        simp only [ht0, hik]
        simp +decide only [go_sem]
        (repeat (first | refine kA ?_ | refine kB ?_ | ((first | (refine kC (N := 95) rfl (by kernel_rfl) ?_) | (apply kJ (id := 11) (N := 95) kpm17; kernel_rfl; rfl; kernel_rfl; (repeat (first | exact Picks.nil | (apply Picks.cons; rfl)))) | (apply kJ (id := 15) (N := 95) kpm17; kernel_rfl; rfl; kernel_rfl; (repeat (first | exact Picks.nil | (apply Picks.cons; rfl)))) | refine kD ?_ | refine kE ?_); simp +decide only [go_sem, hik2, hlj2])))
        have hzt0 : RowsSz 8 (cr (xs.take i)) := cr_sz fun r hr => hz r (List.mem_of_mem_take hr)
        have hzt : RowsSz 8 (cr (xs.take i) ++ anyRows (xs.length + 1 - i + j') 8) := fun r hr => (List.mem_append.1 hr).elim (hzt0 r) (anyRows_sz _ 8 r)
        have hzt2 : RowsSz 8 (cr (xs.take i) ++ v.map T.c :: anyRows (xs.length - i + j') 8) := fun r hr => by
          simp only [List.mem_append, List.mem_cons] at hr
          rcases hr with h | rfl | h
          · exact hzt0 r h
          · exact hvT
          · exact anyRows_sz _ 8 r h
        have hti : (cr (xs.take i)).length = i := by simp [cr_len]; omega
        have g1 := ins_grow1 (cr xs) (v.map T.c) i j' 8 hlt'
        have g2 := ins_grow2 (cr xs) (v.map T.c) i j' 8 hlt'
        rw [cr_take, hcl] at g1 g2
        refine StepC.mk (Step.copyTo (n := 40) (sz := 8) (i := i) (len := xs.length + 1 - i) (cap := xs.length + 1 + j' - i) (ys := [v.map T.c]) (rows := cr (xs.take i) ++ anyRows (xs.length + 1 - i + j') 8) (rows' := cr (xs.take i) ++ v.map T.c :: anyRows (xs.length - i + j') 8) (c := 1)
          rfl (by simp +decide only [go_sem]) (by simp +decide only [go_sem]) (by simp +decide only [go_sem]) (by simp only [List.length_append, anyRows_len, hti]; omega) hzt (srcOne (n := a + NB) (by simp +decide only [go_sem]) (by simp +decide only [go_sem, hmq]) hvT) (by simp <;> omega) g1 ?_)
        have hi1 : i + 1 ≤ xs.length + 1 := by omega
        simp +decide only [go_sem]
        (repeat (first | refine kA ?_ | refine kB ?_ | ((first | (refine kC (N := 95) rfl (by kernel_rfl) ?_) | (apply kJ (id := 11) (N := 95) kpm17; kernel_rfl; rfl; kernel_rfl; (repeat (first | exact Picks.nil | (apply Picks.cons; rfl)))) | (apply kJ (id := 15) (N := 95) kpm17; kernel_rfl; rfl; kernel_rfl; (repeat (first | exact Picks.nil | (apply Picks.cons; rfl)))) | refine kD ?_ | refine kE ?_); simp +decide only [go_sem, hw3, hi1, hlj2, hi, hlj])))
        refine StepC.mk (Step.copyTo (n := 40) (sz := 8) (i := i + 1) (len := xs.length + 1 - (i + 1)) (cap := xs.length + 1 + j' - (i + 1)) (ys := (cr xs).drop i) (rows := cr (xs.take i) ++ v.map T.c :: anyRows (xs.length - i + j') 8) (rows' := cr (xs.take i) ++ (v.map T.c :: ((cr xs).drop i ++ anyRows j' 8))) (c := xs.length - i)
          rfl (by simp +decide only [go_sem]) (by simp +decide only [go_sem]) (by simp +decide only [go_sem]) (by simp only [List.length_append, List.length_cons, anyRows_len, hti]; omega) hzt2
          (srcBa (n := 1000) (i := i) (len := xs.length - i) (cap := xs.length + j - i) (rows := cr xs ++ anyRows j 8) (by simp +decide only [go_sem]) (by simp +decide only [go_sem, hml]) (by simp only [List.length_append, anyRows_len, hcl]; omega) hz2 (by rw [List.drop_append_of_le_length (by omega), List.take_append_of_le_length (by simp [cr_len]), List.take_of_length_le (by simp [cr_len])])) (by simp [cr_len] <;> omega) g2 ?_)
        simp +decide only [go_sem]
        (repeat (first | refine kA ?_ | refine kB ?_ | ((first | (refine kC (N := 95) rfl (by kernel_rfl) ?_) | (apply kJ (id := 11) (N := 95) kpm17; kernel_rfl; rfl; kernel_rfl; (repeat (first | exact Picks.nil | (apply Picks.cons; rfl)))) | (apply kJ (id := 15) (N := 95) kpm17; kernel_rfl; rfl; kernel_rfl; (repeat (first | exact Picks.nil | (apply Picks.cons; rfl)))) | refine kD ?_ | refine kE ?_); simp +decide only [go_sem])))
        refine kK (DS.Sub.trans (sub_mv 40 1000 (by decide)) (kM (N := 95) (sls := [(6, .one (.ba 1000 8 0 (xs.length + 1) (xs.length + 1 + j')))]) (bxs := [(1000, cr (xs.take i ++ v :: xs.drop i) ++ anyRows j' 8)]) rfl (by simp +decide only [go_sem]) (by simp +decide only [go_sem, cr_append, cr_cons, cr_drop, List.append_assoc]))) ?_
        refine kF ?_; simp +decide only [go_sem]
        exact ⟨j', rfl, rfl⟩
      · simp
    · have hg : decide (((xs.length + j : Nat) : Int) < ((xs.length + 1 : Nat) : Int)) = false := by simp; omega
      (repeat (first | refine kA ?_ | refine kB ?_ | ((first | (refine kC (N := 95) rfl (by kernel_rfl) ?_) | (apply kJ (id := 11) (N := 95) kpm17; kernel_rfl; rfl; kernel_rfl; (repeat (first | exact Picks.nil | (apply Picks.cons; rfl)))) | (apply kJ (id := 15) (N := 95) kpm17; kernel_rfl; rfl; kernel_rfl; (repeat (first | exact Picks.nil | (apply Picks.cons; rfl)))) | refine kD ?_ | refine kE ?_); simp +decide only [go_sem, hi, hib, hlj, he, hw1, hg])))
      apply kG; (simp +decide only [go_sem]; rfl)
      · simp
      intro _
      have hj1 : xs.length + 1 ≤ xs.length + j := by omega
      have h0l := Nat.zero_le (xs.length + 1)
      have hi1 : i + 1 ≤ xs.length + 1 := by omega
      (repeat (first | refine kA ?_ | refine kB ?_ | ((first | (refine kC (N := 95) rfl (by kernel_rfl) ?_) | (apply kJ (id := 11) (N := 95) kpm17; kernel_rfl; rfl; kernel_rfl; (repeat (first | exact Picks.nil | (apply Picks.cons; rfl)))) | (apply kJ (id := 15) (N := 95) kpm17; kernel_rfl; rfl; kernel_rfl; (repeat (first | exact Picks.nil | (apply Picks.cons; rfl)))) | refine kD ?_ | refine kE ?_); simp +decide only [go_sem, hi, hib, hlj, he, hw1, hw3, hj1, h0l, Nat.sub_zero, hi1])))
      refine CallC.step (Step.overlaps (t := 25) (tr := 4) (q := a + NB) (sz := 8) (m := 1) (rowsq := [v.map T.c]) (n := 1000) (i := i + 1) (len := xs.length + 1 - (i + 1)) (cap := xs.length + j - (i + 1)) (rows := cr xs ++ anyRows j 8) rfl (by simp +decide only [go_sem]) Tryz.func85 (by kernel_rfl) (by kernel_rfl) (by kernel_rfl) (by kernel_rfl) Tryz.underlying25 (inf := Tryz.t39) (by kernel_rfl)
        (by simp +decide only [go_sem]) (by simp +decide only [go_sem, hmq]) (by simp) (by omega) (by omega) (by simp +decide only [go_sem]) (by simp +decide only [go_sem, hml]) (fun e => by have := congrArg List.length e; simp [anyRows_len, cr_len] at this; omega) hz2 (by omega) hqn ?_)
      simp +decide only [go_sem]
      (repeat (first | refine kA ?_ | refine kB ?_ | ((first | (refine kC (N := 95) rfl (by kernel_rfl) ?_) | (apply kJ (id := 11) (N := 95) kpm17; kernel_rfl; rfl; kernel_rfl; (repeat (first | exact Picks.nil | (apply Picks.cons; rfl)))) | (apply kJ (id := 15) (N := 95) kpm17; kernel_rfl; rfl; kernel_rfl; (repeat (first | exact Picks.nil | (apply Picks.cons; rfl)))) | refine kD ?_ | refine kE ?_); simp +decide only [go_sem])))
      apply kG; (simp +decide only [go_sem]; rfl)
      · intro _
        have hi2 : i ≤ xs.length + 1 := by omega
        have hRl : xs.length + j = (cr xs ++ anyRows j 8).length := by simp [anyRows_len, cr_len]
        have g1 := ins_room1 (cr xs) i j 8 hlt' hj0
        have g2 := ins_room2 (cr xs) (v.map T.c) i (j - 1) 8 hlt'
        rw [cr_take, hcl] at g1 g2
        have hzr2 : RowsSz 8 (cr (xs.take (i + 1)) ++ ((cr xs).drop i ++ anyRows (j - 1) 8)) := fun r hr => by
          simp only [List.mem_append] at hr
          rcases hr with h | h | h
          · exact cr_sz (fun r hr => hz r (List.mem_of_mem_take hr)) r h
          · exact hzr r (List.mem_of_mem_drop h)
          · exact anyRows_sz _ 8 r h
        (repeat (first | refine kA ?_ | refine kB ?_ | ((first | (refine kC (N := 95) rfl (by kernel_rfl) ?_) | (apply kJ (id := 11) (N := 95) kpm17; kernel_rfl; rfl; kernel_rfl; (repeat (first | exact Picks.nil | (apply Picks.cons; rfl)))) | (apply kJ (id := 15) (N := 95) kpm17; kernel_rfl; rfl; kernel_rfl; (repeat (first | exact Picks.nil | (apply Picks.cons; rfl)))) | refine kD ?_ | refine kE ?_); simp +decide only [go_sem, hi, hib, hlj, he, hw1, hw3, hj1, h0l, Nat.sub_zero, hi1, hi2])))
        refine StepC.mk (Step.copyTo (n := 1000) (sz := 8) (i := i + 1) (len := xs.length + 1 - (i + 1)) (cap := xs.length + j - (i + 1)) (ys := ((cr xs ++ anyRows j 8).drop i).take (xs.length + 1 - i)) (rows := cr xs ++ anyRows j 8) (rows' := cr (xs.take (i + 1)) ++ ((cr xs).drop i ++ anyRows (j - 1) 8)) (c := xs.length - i)
          rfl (by simp +decide only [go_sem]) (by simp +decide only [go_sem]) (by simp +decide only [go_sem, hml]) (by rw [← hRl]; omega) hz2
          (srcBa (n := 1000) (i := i) (len := xs.length + 1 - i) (cap := xs.length + j - i) (rows := cr xs ++ anyRows j 8) (by simp +decide only [go_sem]) (by simp +decide only [go_sem, hml]) (by rw [← hRl]; omega) hz2 rfl) (by simp [anyRows_len, cr_len]; omega) g1 ?_)
        simp +decide only [go_sem]
        (repeat (first | refine kA ?_ | refine kB ?_ | ((first | (refine kC (N := 95) rfl (by kernel_rfl) ?_) | (apply kJ (id := 11) (N := 95) kpm17; kernel_rfl; rfl; kernel_rfl; (repeat (first | exact Picks.nil | (apply Picks.cons; rfl)))) | (apply kJ (id := 15) (N := 95) kpm17; kernel_rfl; rfl; kernel_rfl; (repeat (first | exact Picks.nil | (apply Picks.cons; rfl)))) | refine kD ?_ | refine kE ?_); simp +decide only [go_sem, hi, hib, hlj, he, hw1, hw3, hj1, h0l, Nat.sub_zero, hi1, hi2])))
        have hti : (cr (xs.take (i + 1))).length = i + 1 := by simp [cr_len]; omega
        rw [cr_take] at g2
        refine StepC.mk (Step.copyTo (n := 1000) (sz := 8) (i := i) (len := xs.length + 1 - i) (cap := xs.length + j - i) (ys := [v.map T.c]) (rows := cr (xs.take (i + 1)) ++ ((cr xs).drop i ++ anyRows (j - 1) 8)) (rows' := cr (xs.take i) ++ (v.map T.c :: ((cr xs).drop i ++ anyRows (j - 1) 8))) (c := 1)
          rfl (by simp +decide only [go_sem]) (by simp +decide only [go_sem]) (by simp +decide only [go_sem]) (by simp only [List.length_append, List.length_drop, anyRows_len, hti, hcl]; omega) hzr2 (srcOne (n := a + NB) (by simp +decide only [go_sem]) (by simp +decide only [go_sem, hmq]) hvT) (by simp <;> omega) g2 ?_)
        simp +decide only [go_sem]
        (repeat (first | refine kA ?_ | refine kB ?_ | ((first | (refine kC (N := 95) rfl (by kernel_rfl) ?_) | (apply kJ (id := 11) (N := 95) kpm17; kernel_rfl; rfl; kernel_rfl; (repeat (first | exact Picks.nil | (apply Picks.cons; rfl)))) | (apply kJ (id := 15) (N := 95) kpm17; kernel_rfl; rfl; kernel_rfl; (repeat (first | exact Picks.nil | (apply Picks.cons; rfl)))) | refine kD ?_ | refine kE ?_); simp +decide only [go_sem])))
        have hjj : xs.length + 1 + (j - 1) = xs.length + j := by omega
        refine kK (kM (N := 95) (sls := [(6, .one (.ba 1000 8 0 (xs.length + 1) (xs.length + 1 + (j - 1))))]) (bxs := [(1000, cr (xs.take i ++ v :: xs.drop i) ++ anyRows (j - 1) 8)]) rfl (by simp +decide only [go_sem, hjj]) (by simp +decide only [go_sem, cr_append, cr_cons, cr_drop, List.append_assoc])) ?_
        refine kF ?_; simp +decide only [go_sem]
        exact ⟨j - 1, rfl, rfl⟩
      · simp
  · have hie : i = xs.length := by omega
    have he : ((i : Int) == (xs.length : Int)) = true := by simp; omega
    (repeat (first | refine kA ?_ | refine kB ?_ | ((first | (refine kC (N := 95) rfl (by kernel_rfl) ?_) | (apply kJ (id := 11) (N := 95) kpm17; kernel_rfl; rfl; kernel_rfl; (repeat (first | exact Picks.nil | (apply Picks.cons; rfl)))) | (apply kJ (id := 15) (N := 95) kpm17; kernel_rfl; rfl; kernel_rfl; (repeat (first | exact Picks.nil | (apply Picks.cons; rfl)))) | refine kD ?_ | refine kE ?_); simp +decide only [go_sem, hi, hib, hlj, he])))
    apply kG; (simp +decide only [go_sem]; rfl)
    · simp
    intro _
    (repeat (first | refine kA ?_ | refine kB ?_ | ((first | (refine kC (N := 95) rfl (by kernel_rfl) ?_) | (apply kJ (id := 11) (N := 95) kpm17; kernel_rfl; rfl; kernel_rfl; (repeat (first | exact Picks.nil | (apply Picks.cons; rfl)))) | (apply kJ (id := 15) (N := 95) kpm17; kernel_rfl; rfl; kernel_rfl; (repeat (first | exact Picks.nil | (apply Picks.cons; rfl)))) | refine kD ?_ | refine kE ?_); simp +decide only [go_sem, hi, hib, hlj, he])))
    apply kG; (simp +decide only [go_sem]; rfl)
    · intro _
      (repeat (first | refine kA ?_ | refine kB ?_ | ((first | (refine kC (N := 95) rfl (by kernel_rfl) ?_) | (apply kJ (id := 11) (N := 95) kpm17; kernel_rfl; rfl; kernel_rfl; (repeat (first | exact Picks.nil | (apply Picks.cons; rfl)))) | (apply kJ (id := 15) (N := 95) kpm17; kernel_rfl; rfl; kernel_rfl; (repeat (first | exact Picks.nil | (apply Picks.cons; rfl)))) | refine kD ?_ | refine kE ?_); simp +decide only [go_sem, hi, hib, hlj, he])))
      refine StepC.mk (Step.appendList (n := 1000) (rows := cr xs) (ys := [v.map T.c]) (j := j) (sz := 8) (by_ := 144) rfl rfl (by simp +decide only [go_sem]) (by simp +decide only [go_sem, hcl]) (by simp +decide only [go_sem, hml]) hzr (srcOne (n := a + NB) (by simp +decide only [go_sem]) (by simp +decide only [go_sem, hmq]) hvT) (by simp [cr_len]; omega) ?_)
      intro j'
      simp +decide only [go_sem, hcl]
      (repeat (first | refine kA ?_ | refine kB ?_ | ((first | (refine kC (N := 95) rfl (by kernel_rfl) ?_) | (apply kJ (id := 11) (N := 95) kpm17; kernel_rfl; rfl; kernel_rfl; (repeat (first | exact Picks.nil | (apply Picks.cons; rfl)))) | (apply kJ (id := 15) (N := 95) kpm17; kernel_rfl; rfl; kernel_rfl; (repeat (first | exact Picks.nil | (apply Picks.cons; rfl)))) | refine kD ?_ | refine kE ?_); simp +decide only [go_sem])))
      have hta : xs.take i ++ v :: xs.drop i = xs ++ [v] := by subst hie; simp
      refine kK (DS.Sub.trans (sub_mv 25 1000 (by decide)) (kM (N := 95) (sls := [(6, .one (.ba 1000 8 0 (xs.length + 1) (xs.length + 1 + j')))]) (bxs := [(1000, cr (xs.take i ++ v :: xs.drop i) ++ anyRows j' 8)]) rfl (by simp +decide only [go_sem, hcl]) (by simp +decide only [go_sem, hta, cr_append, cr_cons, cr_nil, List.append_assoc]))) ?_
      refine kF ?_; simp +decide only [go_sem]
      exact ⟨j', rfl, rfl⟩
    · simp [hie]

end Go.Proofs.YtdmmhemfnnbddaaGreatDoor

/- Lexicons: an entry taken out of a list. -/
namespace Go.Proofs.YtdmmhemfnnbddaaGreatDoor
open Go.Dl
open Go.Dl renaming dw_seq → kA, dw_block → kB, dw_reg → kC, dw_skip → kD, dw_exit → kE, dw_ret → kF, dw_cond → kG, guardC_f → kH, guardC_t → kI, dw_drw → kJ, dw_weaken → kK, sub_kn → kL, sub_ml → kM
open Go.Dl.CallC renaming mk → kN, light → kO
open Go.Dl.LeL renaming of_eq → kP
attribute [local irreducible] DW DCalls ECalls wk IW

set_option maxRecDepth 10000 in
set_option maxHeartbeats 8000000 in
theorem delN_E (ys : List (List Dl.C)) (j a i : Nat) (hz : ∀ r ∈ ys, r.length = 8) (hi : i < ys.length) (hl : ys.length ≤ 1048576) :
    ECalls Tryz.prog 65 [.one (.ba (a + NB) 8 0 ys.length (ys.length + j)), dv (li i), dv (li ((i + 1 : Nat) : Int))] (ml [(a + NB, cr ys ++ anyRows j 8)])
      (fun r H' => ∃ j', r = .one (.ba (a + NB) 8 0 (ys.length - 1) (ys.length + j)) ∧ H' = ml [(a + NB, cr (ys.take i ++ ys.drop (i + 1)) ++ anyRows j' 8)]) := by
  have hmax : maxLen = 9223372036854775807 := rfl
  have h0 : (0 ≤ i) = True := eq_true (Nat.zero_le i)
  have h1 : (i ≤ i + 1) = True := eq_true (Nat.le_succ i)
  have h2 : (i + 1 ≤ ys.length) = True := eq_true (by omega)
  have h3 : (ys.length ≤ ys.length + j) = True := eq_true (by omega)
  have h4 : (i ≤ ys.length + j) = True := eq_true (by omega)
  have h5 : ((i : Int) == ((i + 1 : Nat) : Int)) = false := beq_eq_false_iff_ne.2 (by omega)
  have hrz : ∀ r ∈ cr ys ++ anyRows j 8, r.length = 8 := fun r hr => (List.mem_append.1 hr).elim (fun h => by obtain ⟨x, hx, rfl⟩ := List.mem_map.1 h; rw [List.length_map]; exact hz x hx) (anyRows_sz j 8 r)
  have hcl : (cr ys).length = ys.length := cr_len ys
  refine ecalls (N := 33) (rs := [.tmp 6]) (by kernel_rfl) Tryz.func65 rfl rfl rfl (by simp) ?_
  (repeat' (first | refine kA ?_ | refine kB ?_ | ((first | (refine kC (N := 33) rfl (by kernel_rfl) ?_) | (apply kJ (id := 5) (N := 33) kpm6; kernel_rfl; rfl; kernel_rfl; (repeat (first | exact Picks.nil | (apply Picks.cons; rfl)))) | refine kD ?_ | refine kE ?_); simp +decide only [go_sem, h0, h1, h2, h3, h4, h5, Int.toNat_natCast, Option.isSome_some, Option.bind_some, Nat.add_sub_cancel_left, Nat.zero_add, Nat.sub_zero]) | (apply kG; (simp +decide only [go_sem, h0, h1, h2, h3, h4, h5, Int.toNat_natCast, Option.isSome_some, Option.bind_some, Nat.add_sub_cancel_left, Nat.zero_add, Nat.sub_zero]; rfl); all_goals (intro hcnd; first | (exact absurd hcnd (by decide)) | skip))))
  have hdl : (cr (ys.drop (i + 1))).length = ys.length - (i + 1) := by rw [cr_len, List.length_drop]
  have hcd : cr (ys.drop (i + 1)) = (cr ys).drop (i + 1) := by simp [cr, List.map_drop]
  have hct : cr (ys.take i) = (cr ys).take i := by simp [cr, List.map_take]
  have hsr : cr (ys.drop (i + 1)) = ((cr ys ++ anyRows j 8).drop (i + 1)).take (ys.length - (i + 1)) := by
    rw [List.drop_append_of_le_length (by rw [hcl]; omega), ← hcd, List.take_left' hdl]
  have hrl : (cr ys ++ anyRows j 8).length = ys.length + j := by rw [List.length_append, hcl]; simp [anyRows]
  have hnew : (cr ys ++ anyRows j 8).take (0 + i) ++ (cr (ys.drop (i + 1)) ++ (cr ys ++ anyRows j 8).drop (0 + i + (cr (ys.drop (i + 1))).length)) = cr (ys.take i ++ ys.drop (i + 1)) ++ (cr ys ++ anyRows j 8).drop (ys.length - 1) := by
    rw [hdl, Nat.zero_add, List.take_append_of_le_length (by rw [hcl]; omega), ← hct, ← List.append_assoc, cr_append, show i + (ys.length - (i + 1)) = ys.length - 1 by omega]
  refine StepC.mk (Step.appendRoom (n := a + NB) (sz := 8) (by_ := 144) (i := 0) (len := i) (cap := ys.length + j) (rows := cr ys ++ anyRows j 8) (ys := cr (ys.drop (i + 1))) rfl rfl (by simp +decide only [go_sem]) (by simp +decide only [go_sem]) (by simp +decide only [go_sem]) (by rw [hrl]; omega) hrz
    (srcBa (n := a + NB) (i := i + 1) (len := ys.length - (i + 1)) (cap := ys.length + j - (i + 1)) (rows := cr ys ++ anyRows j 8) (by simp +decide only [go_sem]) (by simp +decide only [go_sem]) (by rw [hrl]; omega) hrz hsr) (by rw [hdl]; omega) ?_)
  rw [hnew, hdl, show i + (ys.length - (i + 1)) = ys.length - 1 by omega]
  have g1 : (ys.length - 1 ≤ ys.length) = True := eq_true (by omega)
  have g2 : (ys.length ≤ ys.length + j) = True := eq_true (by omega)
  have g3 : (ys.length - 1 ≤ ys.length + j) = True := eq_true (by omega)
  simp +decide only [go_sem]
  (repeat' (first | refine kA ?_ | refine kB ?_ | ((first | (refine kC (N := 33) rfl (by kernel_rfl) ?_) | (apply kJ (id := 5) (N := 33) kpm6; kernel_rfl; rfl; kernel_rfl; (repeat (first | exact Picks.nil | (apply Picks.cons; rfl)))) | refine kD ?_ | refine kE ?_); simp +decide only [go_sem, g1, g2, g3, Int.toNat_natCast, Option.isSome_some, Option.bind_some, Nat.zero_add, Nat.sub_zero]) | (apply kG; (simp +decide only [go_sem, g1, g2, g3, Int.toNat_natCast, Option.isSome_some, Option.bind_some, Nat.zero_add, Nat.sub_zero]; rfl); all_goals (intro hcnd; first | (exact absurd hcnd (by decide)) | skip))))
  have hel : (cr (ys.take i ++ ys.drop (i + 1))).length = ys.length - 1 := by rw [cr_len, List.length_append, List.length_take, List.length_drop]; omega
  have hez : ∀ r ∈ cr (ys.take i ++ ys.drop (i + 1)) ++ (cr ys ++ anyRows j 8).drop (ys.length - 1), r.length = 8 := fun r hr => by
    rcases List.mem_append.1 hr with h | h
    · obtain ⟨x, hx, rfl⟩ := List.mem_map.1 h
      rw [List.length_map]
      rcases List.mem_append.1 hx with h' | h'
      · exact hz x (List.mem_of_mem_take h')
      · exact hz x (List.mem_of_mem_drop h')
    · exact hrz r (List.mem_of_mem_drop h)
  have hfin : (cr (ys.take i ++ ys.drop (i + 1)) ++ (cr ys ++ anyRows j 8).drop (ys.length - 1)).take (ys.length - 1) ++ (anyRows (ys.length - (ys.length - 1)) 8 ++ (cr (ys.take i ++ ys.drop (i + 1)) ++ (cr ys ++ anyRows j 8).drop (ys.length - 1)).drop (ys.length - 1 + (ys.length - (ys.length - 1)))) = cr (ys.take i ++ ys.drop (i + 1)) ++ anyRows (1 + j) 8 := by
    generalize cr (ys.take i ++ ys.drop (i + 1)) = E at hel ⊢
    have e1 : ys.length - 1 + (ys.length - (ys.length - 1)) = E.length + 1 := by rw [hel]; omega
    have e2 : (E ++ (cr ys ++ anyRows j 8).drop (ys.length - 1)).drop (E.length + 1) = anyRows j 8 := by
      rw [← List.drop_drop, List.drop_left, List.drop_drop, show ys.length - 1 + 1 = (cr ys).length by rw [hcl]; omega, List.drop_left]
    rw [List.take_left' hel, e1, e2, show ys.length - (ys.length - 1) = 1 by omega]
    congr 1
    simp only [anyRows, List.replicate_append_replicate]
  refine StepC.mk (Step.clear (n := a + NB) (rows := cr (ys.take i ++ ys.drop (i + 1)) ++ (cr ys ++ anyRows j 8).drop (ys.length - 1)) (i := ys.length - 1) (len := ys.length - (ys.length - 1)) (cap := ys.length + j - (ys.length - 1)) (sz := 8) (by_ := 144) rfl (by simp +decide only [go_sem]) (by simp +decide only [go_sem]) (by simp +decide only [go_sem])
    (by rw [List.length_append, hel, List.length_drop, hrl]; omega) hez ?_)
  rw [hfin]
  simp +decide only [go_sem]
  (repeat (first | refine kA ?_ | refine kB ?_ | ((first | (refine kC (N := 33) rfl (by kernel_rfl) ?_) | (apply kJ (id := 5) (N := 33) kpm6; kernel_rfl; rfl; kernel_rfl; (repeat (first | exact Picks.nil | (apply Picks.cons; rfl)))) | refine kD ?_ | refine kE ?_); simp +decide only [go_sem])))
  refine kK (kM (N := 33) (sls := [(6, .one (.ba (a + NB) 8 0 (ys.length - 1) (ys.length + j)))]) (bxs := [(a + NB, cr (ys.take i ++ ys.drop (i + 1)) ++ anyRows (1 + j) 8)]) rfl (by simp +decide only [go_sem]) (by simp +decide only [go_sem])) ?_
  refine kF ?_; simp +decide only [go_sem]
  exact ⟨_, rfl⟩

end Go.Proofs.YtdmmhemfnnbddaaGreatDoor

/- Lexicons: an entry put in. -/
namespace Go.Proofs.YtdmmhemfnnbddaaGreatDoor
open Go.Dl
open Go.Dl renaming dw_seq → kA, dw_block → kB, dw_reg → kC, dw_skip → kD, dw_exit → kE, dw_ret → kF, dw_cond → kG, guardC_f → kH, guardC_t → kI, dw_drw → kJ, dw_weaken → kK, sub_kn → kL, sub_ml → kM
open Go.Dl.CallC renaming mk → kN, light → kO
open Go.Dl.LeL renaming of_eq → kP
attribute [local irreducible] DW DCalls ECalls wk IW

theorem encN_sz (l : List Ent) : ∀ r ∈ l.map Ent.enc, r.length = 8 := fun r hr => by
  obtain ⟨x, _, rfl⟩ := List.mem_map.1 hr; rfl
def putE (g : List Phon) (l : List Ent) (e : Ent) : List Ent × Int := if lexE g (putLx l e) ≠ 0 then ([], lexE g (putLx l e)) else (putLx l e, 0)

set_option maxRecDepth 10000 in
set_option maxHeartbeats 8000000 in
theorem put_D (g : List Phon) (l : List Ent) (e : Ent) (hl : l.length ≤ 99999) (hm : ∀ x ∈ putLx l e, x.links.length ≤ 1048576) : DCalls Tryz.prog 30 [.agg (invRow g), dv (.sl 8 (l.map Ent.enc)), .agg e.row] (.tup [dv (.sl 8 ((putE g l e).1.map Ent.enc)), dv (li (putE g l e).2)]) := by
  have hmax : maxLen = 9223372036854775807 := rfl
  have hNB := NB_big
  have hS := search_D l e.id (by omega)
  have hcl : (l.map Ent.enc).length = l.length := by simp
  obtain ⟨k, hk⟩ : ∃ k, posE l e.id = k := ⟨_, rfl⟩
  have hk1 : k ≤ l.length := by rw [← hk]; exact posE_le l e.id
  obtain ⟨ps, hps⟩ : ∃ ps, putLx l e = ps := ⟨_, rfl⟩
  have hpl : ps.length ≤ l.length + 1 := by
    rw [← hps]; unfold putLx; simp only [List.length_append, List.length_take, List.length_cons, List.length_drop]; split <;> omega
  have hK := checkL_D g ps (fun x hx => hm x (hps ▸ hx)) (by omega)
  obtain ⟨n, hn⟩ : ∃ n, lexE g ps = n := ⟨_, rfl⟩
  have hE : putE g l e = if n ≠ 0 then ([], n) else (ps, 0) := by unfold putE; rw [hps, hn]
  rw [hn] at hK
  rw [hk] at hS
  rw [hE]
  simp only [invRow] at hK
  cases t0 : foundE l e.id
  · have hpe : ps.map Ent.enc = (l.map Ent.enc).take k ++ Ent.enc e :: (l.map Ent.enc).drop k := by
      rw [← hps]; unfold putLx; rw [t0, hk]; simp [List.map_take, List.map_drop]
    have hpz : (l.map Ent.enc).length + 1 ≤ ((l.map Ent.enc).take k ++ Ent.enc e :: (l.map Ent.enc).drop k).length := by rw [← hpe]; rw [← hps]; unfold putLx; rw [t0, hk]; simp; omega
    have htk : ((l.map Ent.enc).take k ++ Ent.enc e :: (l.map Ent.enc).drop k).take (l.length + 1) = ps.map Ent.enc := by rw [← hpe]; exact List.take_of_length_le (by simp; omega)
    rw [hcl] at hpz
    refine dcalls (N := 38) (rs := [.tmp 6, .tmp 7]) (by kernel_rfl) Tryz.func30 rfl rfl rfl (by simp) ?_
    (repeat' (first | refine kA ?_ | refine kB ?_ | ((first | (refine kC (N := 38) rfl (by kernel_rfl) ?_) | refine kD ?_ | refine kE ?_ | (refine kN (hS) (kP rfl) ?_) | (refine kO (hS) (kP rfl) ?_)); simp +decide only [go_sem, t0, Ent.row, invRow]) | (apply kG; (simp +decide only [go_sem, t0, Ent.row, invRow]; rfl); all_goals (intro hcnd; first | (exact absurd hcnd (by decide)) | skip))))
    refine CallC.eff [] (cloneN_E (l.map Ent.enc) (encN_sz l) (by simp; omega)) rfl (DLeL.of_eq (by simp +decide only [go_sem])) (fun k r h => by cases h) (by constructor <;> simp) ?_
    rintro r H' ⟨j, rfl, rfl⟩
    simp +decide only [go_sem, callMemAft, hcl]
    (repeat (first | refine kA ?_ | refine kB ?_ | ((first | (refine kC (N := 38) rfl (by kernel_rfl) ?_) | refine kD ?_ | refine kE ?_); simp +decide only [go_sem])))
    apply kG; (simp +decide only [go_sem]; rfl)
    · simp
    intro _
    refine dw_regM (N := 38) [.step, .step, .step, .hand] rfl (by kernel_rfl) ?_
    simp +decide only [go_sem, callMemAft, Ent.row, hcl]
    refine StepC.mk (Step.buildOne (sz := 8) (by_ := 144) (ns := e.row) rfl rfl (by simp +decide only [go_sem]) (by decide) (by simp +decide only [go_sem, Ent.row]) rfl ?_)
    simp +decide only [go_sem, callMemAft, Ent.row, hcl]
    refine CallC.sub (sub_mv 20 1000 (by decide)) rfl ?_
    simp +decide only [go_sem]
    refine CallC.eff [29] (insN_E 29 (l.map Ent.enc) j (Ent.enc e) (encN_sz l) rfl k (by simp; omega) (by simp; omega)) rfl (DLeL.of_eq (by simp +decide only [go_sem, hcl])) (listMem_call (by decide) (by simp +decide only [go_sem, callMemAft]) (by simp +decide only [go_sem, Ent.row] <;> rfl)) (by constructor <;> simp [mid]) ?_
    rintro r H' ⟨j', rfl, rfl⟩
    simp +decide only [go_sem, hcl]
    refine dw_frz 1000 8 ((l.map Ent.enc).take k ++ Ent.enc e :: (l.map Ent.enc).drop k) (anyRows j' 8) (by decide) (by simp +decide only [go_sem, callMemAft]; rfl) (by rw [← hpe]; exact encN_sz ps) ?_
    refine kK (s' := kn 38 [(3, .one (.bx 3 1 0 0)), (10, dv (.sl 8 (ps.map Ent.enc)))] (ml [(3, [invRow g])])) (kM rfl (by simp +decide only [go_sem, callMemAft, hpz, htk, invRow]) (by simp +decide only [go_sem, callMemAft, invRow])) ?_
    cases t1 : n != 0
    · have n1 : n = 0 := by simpa using t1
      rw [if_neg (by simpa using n1)]
      (repeat' (first | refine kA ?_ | refine kB ?_ | ((first | (refine kC (N := 38) rfl (by kernel_rfl) ?_) | refine kD ?_ | refine kE ?_ | (refine kN (hK) (kP rfl) ?_) | (refine kO (hK) (kP rfl) ?_) | refine kF ?_); simp +decide only [go_sem, t1, invRow]) | (apply kG; (simp +decide only [go_sem, t1, invRow]; rfl); all_goals (intro hcnd; first | (exact absurd hcnd (by decide)) | skip))))
    · have n1 : n ≠ 0 := by simpa using t1
      rw [if_pos n1]
      (repeat' (first | refine kA ?_ | refine kB ?_ | ((first | (refine kC (N := 38) rfl (by kernel_rfl) ?_) | refine kD ?_ | refine kE ?_ | (refine kN (hK) (kP rfl) ?_) | (refine kO (hK) (kP rfl) ?_)); simp +decide only [go_sem, t1, invRow]) | (apply kG; (simp +decide only [go_sem, t1, invRow]; rfl); all_goals (intro hcnd; first | (exact absurd hcnd (by decide)) | skip))))
      refine dw_slot 6 (dv (.sl 8 [])) (by simp +decide only [go_sem]) ?_
      refine kF ?_; simp +decide only [go_sem]
  · obtain ⟨o, ho⟩ : ∃ o, l[k]? = some o := by
      rw [foundE, hk] at t0
      cases hx : l[k]? with
      | none => rw [hx] at t0; cases t0
      | some o => exact ⟨o, rfl⟩
    have hkl : k < l.length := (List.getElem?_eq_some_iff.1 ho).1
    have hpe : ps.map Ent.enc = (l.map Ent.enc).set k (Ent.enc e) := by
      rw [← hps]; unfold putLx; rw [t0, hk, if_pos rfl, ← List.map_set, List.set_eq_take_append_cons_drop, if_pos hkl]
    have hpn : l.length ≤ ps.length := by have := congrArg List.length hpe; simp at this; omega
    have htk : (ps.map Ent.enc).take l.length = ps.map Ent.enc := List.take_of_length_le (by rw [hpe]; simp)
    refine dcalls (N := 38) (rs := [.tmp 6, .tmp 7]) (by kernel_rfl) Tryz.func30 rfl rfl rfl (by simp) ?_
    (repeat' (first | refine kA ?_ | refine kB ?_ | ((first | (refine kC (N := 38) rfl (by kernel_rfl) ?_) | refine kD ?_ | refine kE ?_ | (refine kN (hS) (kP rfl) ?_) | (refine kO (hS) (kP rfl) ?_)); simp +decide only [go_sem, t0, Ent.row, invRow]) | (apply kG; (simp +decide only [go_sem, t0, Ent.row, invRow]; rfl); all_goals (intro hcnd; first | (exact absurd hcnd (by decide)) | skip))))
    refine CallC.eff [] (cloneN_E (l.map Ent.enc) (encN_sz l) (by simp; omega)) rfl (DLeL.of_eq (by simp +decide only [go_sem])) (fun k r h => by cases h) (by constructor <;> simp) ?_
    rintro r H' ⟨j, rfl, rfl⟩
    have hrow : (cr (l.map Ent.enc) ++ anyRows j 8)[k]? = some o.row := cr_at (x := Ent.enc o) (by simp only [List.getElem?_map, ho, Option.map_some])
    have hset : (cr (l.map Ent.enc) ++ anyRows j 8).set k e.row = cr (ps.map Ent.enc) ++ anyRows j 8 := by rw [hpe, ← cr_set (by simpa using hkl)]; rfl
    simp only [Ent.row] at hrow hset
    simp +decide only [go_sem, callMemAft, hcl]
    (repeat (first | refine kA ?_ | refine kB ?_ | ((first | (refine kC (N := 38) rfl (by kernel_rfl) ?_) | refine kD ?_ | refine kE ?_); simp +decide only [go_sem])))
    apply kG; (simp +decide only [go_sem]; rfl)
    rotate_left
    · simp
    intro _
    refine dw_regM (N := 38) [.step, .step, .step, .step, .step] rfl (by kernel_rfl) ?_
    simp +decide only [go_sem, callMemAft, Ent.row, hcl, hkl, hrow, hset]
    refine dw_frz 20 8 (ps.map Ent.enc) (anyRows j 8) (by decide) (by simp +decide only [go_sem, callMemAft, hset]; rfl) (encN_sz ps) ?_
    refine kK (s' := kn 38 [(3, .one (.bx 3 1 0 0)), (10, dv (.sl 8 (ps.map Ent.enc)))] (ml [(3, [invRow g])])) (kM rfl (by simp +decide only [go_sem, callMemAft, hpn, htk, invRow]) (by simp +decide only [go_sem, callMemAft, invRow])) ?_
    cases t1 : n != 0
    · have n1 : n = 0 := by simpa using t1
      rw [if_neg (by simpa using n1)]
      (repeat' (first | refine kA ?_ | refine kB ?_ | ((first | (refine kC (N := 38) rfl (by kernel_rfl) ?_) | refine kD ?_ | refine kE ?_ | (refine kN (hK) (kP rfl) ?_) | (refine kO (hK) (kP rfl) ?_) | refine kF ?_); simp +decide only [go_sem, t1, invRow]) | (apply kG; (simp +decide only [go_sem, t1, invRow]; rfl); all_goals (intro hcnd; first | (exact absurd hcnd (by decide)) | skip))))
    · have n1 : n ≠ 0 := by simpa using t1
      rw [if_pos n1]
      (repeat' (first | refine kA ?_ | refine kB ?_ | ((first | (refine kC (N := 38) rfl (by kernel_rfl) ?_) | refine kD ?_ | refine kE ?_ | (refine kN (hK) (kP rfl) ?_) | (refine kO (hK) (kP rfl) ?_)); simp +decide only [go_sem, t1, invRow]) | (apply kG; (simp +decide only [go_sem, t1, invRow]; rfl); all_goals (intro hcnd; first | (exact absurd hcnd (by decide)) | skip))))
      refine dw_slot 6 (dv (.sl 8 [])) (by simp +decide only [go_sem]) ?_
      refine kF ?_; simp +decide only [go_sem]
end Go.Proofs.YtdmmhemfnnbddaaGreatDoor

/- Lexicons: an entry taken out. -/
namespace Go.Proofs.YtdmmhemfnnbddaaGreatDoor
open Go.Dl
open Go.Dl renaming dw_seq → kA, dw_block → kB, dw_reg → kC, dw_skip → kD, dw_exit → kE, dw_ret → kF, dw_cond → kG, guardC_f → kH, guardC_t → kI, dw_drw → kJ, dw_weaken → kK, sub_kn → kL, sub_ml → kM
open Go.Dl.CallC renaming mk → kN, light → kO
open Go.Dl.LeL renaming of_eq → kP
attribute [local irreducible] DW DCalls ECalls wk IW

def dropE (l : List Ent) (id : Int) : List Ent × Int := if hasId l id = false then ([], 9) else if (othersE l id).any (usesId id) = true then ([], 18) else (othersE l id, 0)
theorem dropE_no {l : List Ent} {id : Int} (h : hasId l id = false) : dropE l id = ([], 9) := by rw [dropE, if_pos h]
theorem dropE_used {l : List Ent} {id : Int} (h : hasId l id = true) {e : Ent} (he : e ∈ l) (h1 : e.id ≠ id) (h2 : usesId id e = true) : dropE l id = ([], 18) := by
  rw [dropE, if_neg (by simp [h]), if_pos]
  exact List.any_eq_true.2 ⟨e, List.mem_filter.2 ⟨he, by simpa using h1⟩, h2⟩
theorem dropE_ok {l : List Ent} {id : Int} (h : hasId l id = true) (hu : ∀ e ∈ l, e.id ≠ id → usesId id e = false) : dropE l id = (othersE l id, 0) := by
  rw [dropE, if_neg (by simp [h]), if_neg]
  intro hc
  obtain ⟨e, he, h2⟩ := List.any_eq_true.1 hc
  obtain ⟨he, hi⟩ := List.mem_filter.1 he
  rw [hu e he (by simpa using hi)] at h2; cases h2

set_option maxRecDepth 10000 in
theorem uses1_D (x : Lnk) (id : Int) : DCalls Tryz.prog 64 [.agg x.row, dv (.pt [li id])] (dv (lb (x.tgt == id))) := by
  refine dcalls (N := 8) (rs := [.tmp 3]) (by kernel_rfl) Tryz.func64 rfl rfl rfl (by simp) ?_
  (repeat' (first | refine kA ?_ | refine kB ?_ | ((first | (refine kC (N := 8) rfl (by kernel_rfl) ?_) | refine kD ?_ | refine kE ?_ | refine kF ?_); simp +decide only [go_sem, Lnk.row]) | (apply kG; (simp +decide only [go_sem, Lnk.row]; rfl); all_goals (intro hcnd; first | (exact absurd hcnd (by decide)) | skip))))

set_option maxRecDepth 10000 in
set_option maxHeartbeats 8000000 in
theorem drop_D (l : List Ent) (id : Int) (hs : UpE l) (hl : l.length ≤ 99999) (hm : ∀ x ∈ l, x.links.length ≤ 1048576) : DCalls Tryz.prog 33 [dv (.sl 8 (l.map Ent.enc)), dv (li id)] (.tup [dv (.sl 8 ((dropE l id).1.map Ent.enc)), dv (li (dropE l id).2)]) := by
  have hmax : maxLen = 9223372036854775807 := rfl
  have hS := search_D l id (by omega)
  have hcl : (l.map Ent.enc).length = l.length := by simp
  have hf := foundE_eq l id hs
  obtain ⟨p, hp⟩ : ∃ p, posE l id = p := ⟨_, rfl⟩
  have hcut := fun h => others_cut (l := l) (id := id) hs h
  have hat := fun h => posE_at (l := l) (id := id) hs h
  rw [hp] at hS hcut hat
  refine dcalls (N := 47) (rs := [.tmp 4, .tmp 5]) (by kernel_rfl) Tryz.func33 rfl rfl rfl (by simp) ?_
  cases t0 : foundE l id
  · rw [dropE_no (by rw [← hf]; exact t0)]
    (repeat' (first | refine kA ?_ | refine kB ?_ | ((first | (refine kC (N := 47) rfl (by kernel_rfl) ?_) | refine kD ?_ | refine kE ?_ | (refine kN (hS) (kP rfl) ?_) | (refine kO (hS) (kP rfl) ?_)); simp +decide only [go_sem, t0]) | (apply kG; (simp +decide only [go_sem, t0]; rfl); all_goals (intro hcnd; first | (exact absurd hcnd (by decide)) | skip)) | ((first | refine kH ?_ ?_ | refine kI ?_ ?_) <;> (intro hcnd; simp +decide only [go_sem, hcnd, t0]))))
    refine dw_slot 4 (dv (.sl 8 [])) (by simp +decide only [go_sem]) ?_
    refine kF ?_; simp +decide only [go_sem]
  have hh : hasId l id = true := by rw [← hf]; exact t0
  obtain ⟨o, ho, hoi⟩ := hat hh
  have hpl : p < l.length := (List.getElem?_eq_some_iff.1 ho).1
  (repeat' (first | refine kA ?_ | refine kB ?_ | ((first | (refine kC (N := 47) rfl (by kernel_rfl) ?_) | refine kD ?_ | refine kE ?_ | (refine kN (hS) (kP rfl) ?_) | (refine kO (hS) (kP rfl) ?_)); simp +decide only [go_sem, t0]) | (apply kG; (simp +decide only [go_sem, t0]; rfl); all_goals (intro hcnd; first | (exact absurd hcnd (by decide)) | skip)) | ((first | refine kH ?_ ?_ | refine kI ?_ ?_) <;> (intro hcnd; simp +decide only [go_sem, hcnd, t0]))))
  refine dw_frz1 3 [li id] (by simp) (by simp +decide only [go_sem]) ?_
  refine dw_rngI l (fun k => kn 47 [(0, dv (.sl 8 (l.map Ent.enc))), (3, dv (.pt [li id])), (6, dv (li p)), (18, dv (.sl 8 (l.map Ent.enc))), (19, dv (li l.length)), (20, dv (li k))] noMem) (fun k => ∀ e ∈ l.take k, e.id ≠ id → usesId id e = false) (by omega) (kL rfl (by simp +decide only [go_sem]) (by intro _ _ h; simp [noMem] at h)) (by simp) ?_ ?_
  · intro k e he hk hmm htk hlt hw hi
    have hA := conLK_D 64 [.pt [li id]] (fun x => x.tgt == id) e.links (fun x _ => uses1_D x id) (hm e hmm)
    by_cases hkp : k = p
    · have h1 : ((k : Int) != (p : Int)) = false := by simp [hkp]
      have h2 : e.id ≠ id → usesId id e = false := fun h => by
        rw [hkp, ho] at he; injection he with he; rw [← he] at h; exact absurd hoi h
      (repeat' (first | refine kA ?_ | refine kB ?_ | ((first | (refine kC (N := 47) rfl (by kernel_rfl) ?_) | refine kD ?_ | refine kE ?_ | refine kF ?_); simp +decide only [go_sem, hlt, hw, he, h1, Ent.enc]) | (apply kG; (simp +decide only [go_sem, hlt, hw, he, h1, Ent.enc]; rfl); all_goals (intro hcnd; first | (exact absurd hcnd (by decide)) | skip)) | ((first | refine kH ?_ ?_ | refine kI ?_ ?_) <;> (intro hcnd; simp +decide only [go_sem, hcnd, hlt, hw, he, h1, Ent.enc]))))
      exact ⟨forall_snoc htk hi h2, kL rfl (by simp +decide only [go_sem]) (by simp [noMem])⟩
    · have h1 : ((k : Int) != (p : Int)) = true := by simp; omega
      have hne : e.id ≠ id := fun h => by
        obtain ⟨q1, q2⟩ := List.getElem?_eq_some_iff.1 he
        obtain ⟨q3, q4⟩ := List.getElem?_eq_some_iff.1 ho
        have hp2 := List.pairwise_iff_getElem.1 hs
        rcases Nat.lt_or_gt_of_ne hkp with h3 | h3
        · have := hp2 k p q1 q3 h3; rw [q2, q4] at this; omega
        · have := hp2 p k q3 q1 h3; rw [q2, q4] at this; omega
      cases t1 : e.main == id
      · cases t2 : e.links.any fun x => x.tgt == id
        · have h2 : e.id ≠ id → usesId id e = false := fun _ => by rw [usesId, t1, t2]; rfl
          (repeat' (first | refine kA ?_ | refine kB ?_ | ((first | (refine kC (N := 47) rfl (by kernel_rfl) ?_) | refine kD ?_ | refine kE ?_ | (refine kN (hA) (kP rfl) ?_) | (refine kO (hA) (kP rfl) ?_) | refine kF ?_); simp +decide only [go_sem, hlt, hw, he, h1, t1, t2, Ent.enc]) | (apply kG; (simp +decide only [go_sem, hlt, hw, he, h1, t1, t2, Ent.enc]; rfl); all_goals (intro hcnd; first | (exact absurd hcnd (by decide)) | skip)) | ((first | refine kH ?_ ?_ | refine kI ?_ ?_) <;> (intro hcnd; simp +decide only [go_sem, hcnd, hlt, hw, he, h1, t1, t2, Ent.enc]))))
          exact ⟨forall_snoc htk hi h2, kL rfl (by simp +decide only [go_sem]) (by simp [noMem])⟩
        · rw [dropE_used hh hmm hne (by rw [usesId, t1, t2]; rfl)]
          (repeat' (first | refine kA ?_ | refine kB ?_ | ((first | (refine kC (N := 47) rfl (by kernel_rfl) ?_) | refine kD ?_ | refine kE ?_ | (refine kN (hA) (kP rfl) ?_) | (refine kO (hA) (kP rfl) ?_)); simp +decide only [go_sem, hlt, hw, he, h1, t1, t2, Ent.enc]) | (apply kG; (simp +decide only [go_sem, hlt, hw, he, h1, t1, t2, Ent.enc]; rfl); all_goals (intro hcnd; first | (exact absurd hcnd (by decide)) | skip)) | ((first | refine kH ?_ ?_ | refine kI ?_ ?_) <;> (intro hcnd; simp +decide only [go_sem, hcnd, hlt, hw, he, h1, t1, t2, Ent.enc]))))
          refine dw_slot 4 (dv (.sl 8 [])) (by simp +decide only [go_sem]) ?_
          refine kF ?_; simp +decide only [go_sem]
      · rw [dropE_used hh hmm hne (by rw [usesId, t1]; rfl)]
        (repeat' (first | refine kA ?_ | refine kB ?_ | ((first | (refine kC (N := 47) rfl (by kernel_rfl) ?_) | refine kD ?_ | refine kE ?_ | (refine kN (hA) (kP rfl) ?_) | (refine kO (hA) (kP rfl) ?_)); simp +decide only [go_sem, hlt, hw, he, h1, t1, Ent.enc]) | (apply kG; (simp +decide only [go_sem, hlt, hw, he, h1, t1, Ent.enc]; rfl); all_goals (intro hcnd; first | (exact absurd hcnd (by decide)) | skip)) | ((first | refine kH ?_ ?_ | refine kI ?_ ?_) <;> (intro hcnd; simp +decide only [go_sem, hcnd, hlt, hw, he, h1, t1, Ent.enc]))))
        refine dw_slot 4 (dv (.sl 8 [])) (by simp +decide only [go_sem]) ?_
        refine kF ?_; simp +decide only [go_sem]
  · intro hlt hi
    rw [List.take_length] at hi
    rw [dropE_ok hh hi]
    have hwp := wrap_succ p (by omega)
    (repeat' (first | refine kA ?_ | refine kB ?_ | ((first | (refine kC (N := 47) rfl (by kernel_rfl) ?_) | refine kD ?_ | refine kE ?_); simp +decide only [go_sem, hlt]) | (apply kG; (simp +decide only [go_sem, hlt]; rfl); all_goals (intro hcnd; first | (exact absurd hcnd (by decide)) | skip)) | ((first | refine kH ?_ ?_ | refine kI ?_ ?_) <;> (intro hcnd; simp +decide only [go_sem, hcnd, hlt]))))
    have hz := encN_sz l
    refine CallC.eff [] (cloneN_E (l.map Ent.enc) hz (by simp; omega)) rfl (DLeL.of_eq (by simp +decide only [go_sem])) (fun k r h => by cases h) (by constructor <;> simp) ?_
    rintro r H' ⟨j, rfl, rfl⟩
    simp +decide only [go_sem, callMemAft, hwp, hcl]
    refine CallC.eff [42] (delN_E (l.map Ent.enc) j 42 p hz (by omega) (by omega)) rfl (DLeL.of_eq (by simp +decide only [go_sem, hcl])) (fun k r h => ?_) (by constructor <;> simp [mid]) ?_
    · by_cases hk : k = 42 + NB
      · subst hk; simp +decide only [go_sem] at h; subst h; simp +decide only [go_sem, callMemAft, callMem]
      · simp +decide only [go_sem, hk] at h
    rintro r H' ⟨j', rfl, rfl⟩
    simp +decide only [go_sem, callMemAft]
    have hoe : (l.map Ent.enc).take p ++ (l.map Ent.enc).drop (p + 1) = (othersE l id).map Ent.enc := by rw [hcut t0]; simp [List.map_take, List.map_drop]
    have hol : (othersE l id).length = l.length - 1 := by rw [hcut t0, List.length_append, List.length_take, List.length_drop]; omega
    have hel : l.length - 1 ≤ (othersE l id).length := by omega
    have htk : ((othersE l id).map Ent.enc).take (l.length - 1) = (othersE l id).map Ent.enc := List.take_of_length_le (by simp; omega)
    rw [hoe]
    refine dw_frz 42 8 ((othersE l id).map Ent.enc) (anyRows j' 8) (by decide) (by simp +decide only [go_sem, callMemAft]; rfl) (encN_sz _) ?_
    refine kF ?_; simp +decide only [go_sem, callMemAft, hel, htk]
end Go.Proofs.YtdmmhemfnnbddaaGreatDoor

/- Lexicons: an entry taken out, the reference. -/
namespace Go.Proofs.YtdmmhemfnnbddaaGreatDoor
open Go.Dl
open Go.Dl renaming dw_seq → kA, dw_block → kB, dw_reg → kC, dw_skip → kD, dw_exit → kE, dw_ret → kF, dw_cond → kG, guardC_f → kH, guardC_t → kI, dw_drw → kJ, dw_weaken → kK, sub_kn → kL, sub_ml → kM
open Go.Dl.CallC renaming mk → kN, light → kO
open Go.Dl.LeL renaming of_eq → kP
attribute [local irreducible] DW DCalls ECalls wk IW

theorem others_snoc (l : List Ent) (id : Int) (e : Ent) : othersE (l ++ [e]) id = othersE l id ++ if e.id = id then [] else [e] := by
  unfold othersE
  rw [List.filter_append]; congr 1
  by_cases h : e.id = id <;> simp [h]
theorem othersE_le (l : List Ent) (id : Int) : (othersE l id).length ≤ l.length := List.length_filter_le _ _

set_option maxRecDepth 10000 in
set_option maxHeartbeats 8000000 in
theorem rDrop_D (l : List Ent) (id : Int) (hl : l.length ≤ 99999) (hm : ∀ x ∈ l, x.links.length ≤ 1048576) : DCalls Tryz.prog 34 [dv (.sl 8 (l.map Ent.enc)), dv (li id)] (.tup [dv (.sl 8 ((dropE l id).1.map Ent.enc)), dv (li (dropE l id).2)]) := by
  have hmax : maxLen = 9223372036854775807 := rfl
  have hS := rHasId_D l id (by omega)
  refine dcalls (N := 62) (rs := [.tmp 4, .tmp 5]) (by kernel_rfl) Tryz.func34 rfl rfl rfl (by simp) ?_
  cases hh : hasId l id
  · rw [dropE_no hh]
    (repeat' (first | refine kA ?_ | refine kB ?_ | ((first | (refine kC (N := 62) rfl (by kernel_rfl) ?_) | refine kD ?_ | refine kE ?_ | (refine kN (hS) (kP rfl) ?_) | (refine kO (hS) (kP rfl) ?_)); simp +decide only [go_sem, hh]) | (apply kG; (simp +decide only [go_sem, hh]; rfl); all_goals (intro hcnd; first | (exact absurd hcnd (by decide)) | skip))))
    refine dw_slot 4 (dv (.sl 8 [])) (by simp +decide only [go_sem]) ?_
    refine kF ?_; simp +decide only [go_sem]
  (repeat' (first | refine kA ?_ | refine kB ?_ | ((first | (refine kC (N := 62) rfl (by kernel_rfl) ?_) | refine kD ?_ | refine kE ?_ | (refine kN (hS) (kP rfl) ?_) | (refine kO (hS) (kP rfl) ?_)); simp +decide only [go_sem, hh]) | (apply kG; (simp +decide only [go_sem, hh]; rfl); all_goals (intro hcnd; first | (exact absurd hcnd (by decide)) | skip))))
  refine dw_own 6 6 8 (by simp +decide only [go_sem]) ?_
  refine dw_rngI l (fun k => kn 62 [(0, dv (.sl 8 (l.map Ent.enc))), (1, dv (li id)), (6, .one (.own 6 8 ((othersE (l.take k) id).map Ent.enc))), (14, dv (li l.length)), (15, dv (li k))] noMem) (fun k => ∀ e ∈ l.take k, e.id ≠ id → usesId id e = false) (by omega) (kL rfl (by simp +decide only [go_sem, List.take_zero, othersE, List.filter_nil, List.map_nil]) (by intro _ _ h; simp [noMem] at h)) (by simp) ?_ ?_
  · intro k e he hk hmm htk hlt hw hi
    have hel := hm e hmm
    have hst : othersE (l.take (k + 1)) id = othersE (l.take k) id ++ if e.id = id then [] else [e] := by rw [htk, others_snoc]
    have hol : (othersE (l.take k) id).length ≤ k := by have := othersE_le (l.take k) id; rw [List.length_take] at this; omega
    cases t1 : e.id == id
    rotate_left
    · have h1 : e.id = id := by simpa using t1
      rw [if_pos h1, List.append_nil] at hst
      (repeat' (first | refine kA ?_ | refine kB ?_ | ((first | (refine kC (N := 62) rfl (by kernel_rfl) ?_) | refine kD ?_ | refine kE ?_ | refine kF ?_); simp +decide only [go_sem, hlt, hw, he, t1, Ent.enc]) | (apply kG; (simp +decide only [go_sem, hlt, hw, he, t1, Ent.enc]; rfl); all_goals (intro hcnd; first | (exact absurd hcnd (by decide)) | skip))))
      exact ⟨forall_snoc htk hi (fun h => absurd h1 h), kL rfl (by simp +decide only [go_sem, hst]) (by simp [noMem])⟩
    have hne : e.id ≠ id := by simpa using t1
    rw [if_neg hne] at hst
    cases t2 : e.main == id
    rotate_left
    · rw [dropE_used hh hmm hne (by rw [usesId, t2]; rfl)]
      (repeat' (first | refine kA ?_ | refine kB ?_ | ((first | (refine kC (N := 62) rfl (by kernel_rfl) ?_) | refine kD ?_ | refine kE ?_); simp +decide only [go_sem, hlt, hw, he, t1, t2, Ent.enc]) | (apply kG; (simp +decide only [go_sem, hlt, hw, he, t1, t2, Ent.enc]; rfl); all_goals (intro hcnd; first | (exact absurd hcnd (by decide)) | skip))))
      refine dw_slot 4 (dv (.sl 8 [])) (by simp +decide only [go_sem]) ?_
      refine kF ?_; simp +decide only [go_sem]
    (repeat' (first | refine kA ?_ | refine kB ?_ | ((first | (refine kC (N := 62) rfl (by kernel_rfl) ?_) | refine kD ?_ | refine kE ?_); simp +decide only [go_sem, hlt, hw, he, t1, t2, Ent.enc]) | (apply kG; (simp +decide only [go_sem, hlt, hw, he, t1, t2, Ent.enc]; rfl); all_goals (intro hcnd; first | (exact absurd hcnd (by decide)) | skip))))
    refine dw_rngI e.links (fun j => kn 62 [(0, dv (.sl 8 (l.map Ent.enc))), (1, dv (li id)), (6, .one (.own 6 8 ((othersE (l.take k) id).map Ent.enc))), (7, dv (li k)), (14, dv (li l.length)), (15, dv (li k)), (37, dv (li e.links.length)), (38, dv (li j))] noMem) (fun j => ∀ x ∈ e.links.take j, (x.tgt == id) = false) (by omega) (kL rfl (by simp +decide only [go_sem]) (by simp [noMem])) (by simp) ?_ ?_
    · intro j x hx hj hxm htj hlt2 hw2 hi2
      cases t3 : x.tgt == id
      · (repeat' (first | refine kA ?_ | refine kB ?_ | ((first | (refine kC (N := 62) rfl (by kernel_rfl) ?_) | refine kD ?_ | refine kE ?_ | refine kF ?_); simp +decide only [go_sem, hlt2, hw2, he, hx, t3, Ent.enc, Lnk.enc]) | (apply kG; (simp +decide only [go_sem, hlt2, hw2, he, hx, t3, Ent.enc, Lnk.enc]; rfl); all_goals (intro hcnd; first | (exact absurd hcnd (by decide)) | skip))))
        exact ⟨forall_snoc htj hi2 t3, kL rfl (by simp +decide only [go_sem]) (by simp [noMem])⟩
      · rw [dropE_used hh hmm hne (by rw [usesId, Bool.or_eq_true]; exact .inr (List.any_eq_true.2 ⟨x, hxm, t3⟩))]
        (repeat' (first | refine kA ?_ | refine kB ?_ | ((first | (refine kC (N := 62) rfl (by kernel_rfl) ?_) | refine kD ?_ | refine kE ?_); simp +decide only [go_sem, hlt2, hw2, he, hx, t3, Ent.enc, Lnk.enc]) | (apply kG; (simp +decide only [go_sem, hlt2, hw2, he, hx, t3, Ent.enc, Lnk.enc]; rfl); all_goals (intro hcnd; first | (exact absurd hcnd (by decide)) | skip))))
        refine dw_slot 4 (dv (.sl 8 [])) (by simp +decide only [go_sem]) ?_
        refine kF ?_; simp +decide only [go_sem]
    · intro hlt2 hi2
      rw [List.take_length] at hi2
      have hu : usesId id e = false := by rw [usesId, t2, Bool.false_or]; exact List.any_eq_false.2 (fun x hx => by rw [hi2 x hx]; decide)
      have hcap : (((othersE (l.take k) id).length + 1) * 144 ≤ 140737488355328) = True := eq_true (by omega)
      (repeat' (first | refine kA ?_ | refine kB ?_ | ((first | (refine kC (N := 62) rfl (by kernel_rfl) ?_) | refine kD ?_ | refine kE ?_ | refine kF ?_); simp +decide only [go_sem, hw, hlt2, he, hcap, Ent.enc]) | (apply kG; (simp +decide only [go_sem, hw, hlt2, he, hcap, Ent.enc]; rfl); all_goals (intro hcnd; first | (exact absurd hcnd (by decide)) | skip))))
      exact ⟨forall_snoc htk hi (fun _ => hu), kL rfl (by simp +decide only [go_sem, hst, List.map_append, List.map_cons, List.map_nil, Ent.enc]) (by simp [noMem])⟩
  · intro hlt hi
    rw [List.take_length] at hi ⊢
    rw [dropE_ok hh hi]
    (repeat' (first | refine kA ?_ | refine kB ?_ | ((first | (refine kC (N := 62) rfl (by kernel_rfl) ?_) | refine kD ?_ | refine kE ?_); simp +decide only [go_sem, hlt]) | (apply kG; (simp +decide only [go_sem, hlt]; rfl); all_goals (intro hcnd; first | (exact absurd hcnd (by decide)) | skip))))
    refine dw_slot 4 _ (DLe.own_ _ _ _) ?_
    refine kF ?_; simp +decide only [go_sem]
end Go.Proofs.YtdmmhemfnnbddaaGreatDoor
