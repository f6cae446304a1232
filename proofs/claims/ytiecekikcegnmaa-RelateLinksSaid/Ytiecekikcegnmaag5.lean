/- The logic of data over the kit's walk, and contracts of the functions that the law reaches, each said by plain data; part 6 of 6. -/
import Derived.Test.YtiecekikcegnmaaRows
import Derived.WalkKit
import Derived.ProofKit
import Derived.OpenShut
import Derived.ShutString
import Derived.ChangeOld
import Derived.Below
import Derived.Test.Ytiecekikcegnmaag4
set_option linter.all false
set_option linter.unusedVariables false
set_option linter.unusedSimpArgs false
open Nat renaming reduceEqDiff → n1, reduceAdd → n2, reduceMul → n3, reduceSub → n4, reduceLeDiff → n5, reduceBEq → n6
/- What few tells. -/
namespace Go.Proofs.Ytiecekikcegnmaa
open Go.Dl
attribute [local irreducible] DW DCalls ECalls wk IW

/-- Neighbours in order. -/
def Adj {α : Type} (r : α → α → Prop) (l : List α) : Prop := ∀ i x y, l[i]? = some x → l[i + 1]? = some y → r x y
theorem Adj.snoc {α : Type} {r : α → α → Prop} {l : List α} {k : Nat} {x : α} (h : Adj r (l.take k)) (hx : l[k]? = some x) (hr : ∀ y, 0 < k → l[k - 1]? = some y → r y x) : Adj r (l.take (k + 1)) := fun i u v hu hv => by
  rw [List.getElem?_take] at hu hv
  split at hv
  · rename_i h1
    rw [if_pos (by omega)] at hu
    by_cases h2 : i + 1 = k
    · rw [h2, hx] at hv; injection hv with hv
      rw [← hv]; exact hr u (by omega) (by rw [show k - 1 = i by omega]; exact hu)
    · exact h i u v (by rw [List.getElem?_take, if_pos (by omega)]; exact hu) (by rw [List.getElem?_take, if_pos (by omega)]; exact hv)
  · cases hv

structure FewE (e : Ent) : Prop where
  links : e.links.length ≤ 20
  senses : e.senses.length ≤ 20
  alts : e.alts.length ≤ 20
  refs : e.refs.length ≤ 40
  up : Adj (fun x y => lessL x y = true) e.links
structure Few (l : List Ent) : Prop where
  len : l.length ≤ 40
  ids : Adj (fun x y : Ent => x.id < y.id) l
  each : ∀ e ∈ l, FewE e
noncomputable def fewB (l : List Ent) : Bool := @decide (Few l) (Classical.propDecidable _)
theorem fewB_t {l : List Ent} (h : Few l) : fewB l = true := by simp [fewB, h]
theorem fewB_f {l : List Ent} (h : ¬ Few l) : fewB l = false := by simp [fewB, h]

set_option maxRecDepth 10000 in
set_option maxHeartbeats 16000000 in
--F14
theorem few_D (l : List Ent) : DCalls Try.prog 14 [dv (.sl 8 (l.map Ent.enc))] (dv (lb (fewB l))) := by
  have hmax : maxLen = 9223372036854775807 := rfl
  refine dcalls (N := 114) (rs := [.tmp 2]) (by kernel_rfl) Try.func14 rfl rfl rfl (by simp) ?_
  cases h0 : decide ((40 : Int) < (l.length : Int))
  rotate_left
  · (repeat' (first | (refine dw_seq ?_) | (refine dw_block ?_) | ((first | (refine dw_reg (N := 114) rfl (by kernel_rfl) ?_) | (apply dw_drw (id := 6) (N := 114) [(0, .light), (1, .light), (2, .light), (3, .light), (4, .light), (5, .light), (6, .light), (7, .light), (8, .light), (9, .light), (10, .light), (11, .light), (12, .light), (13, .light), (14, .light), (15, .light), (16, .light), (17, .light), (18, .light), (19, .light), (20, .light), (21, .light), (22, .light), (23, .light), (24, .light), (25, .light), (26, .light), (27, .light), (28, .light), (29, .light), (30, .light), (31, .light), (32, .light), (33, .light), (34, .light), (35, .light), (36, .light), (37, .light), (38, .light), (39, .light), (40, .light), (41, .light), (42, .light), (43, .light), (44, .light), (45, .light), (46, .light), (47, .light), (48, .light), (49, .light), (50, .light), (51, .light)]; kernel_rfl; rfl; kernel_rfl; (repeat (first | exact Picks.nil | (apply Picks.cons; rfl)))) | (refine dw_skip ?_) | (refine dw_exit ?_) | (refine dw_ret ?_)); simp (decide := true) only [go_sem, reduceIte, reduceCtorEq, n1, n2, n3, n4, n5, n6, h0]) | (apply dw_cond; (simp (decide := true) only [go_sem, reduceIte, reduceCtorEq, n1, n2, n3, n4, n5, n6, h0]; rfl); all_goals (intro hcnd; first | (exact absurd hcnd (by decide)) | skip)) | ((first | refine guardC_f ?_ ?_ | refine guardC_t ?_ ?_) <;> (intro hcnd; simp (decide := true) only [go_sem, reduceIte, reduceCtorEq, n1, n2, n3, n4, n5, n6, hcnd, h0]))))
    rw [fewB_f (fun h => by have := h.len; simp at h0; omega)]
  have hl : l.length ≤ 40 := by simp at h0; omega
  (repeat' (first | (refine dw_seq ?_) | (refine dw_block ?_) | ((first | (refine dw_reg (N := 114) rfl (by kernel_rfl) ?_) | (apply dw_drw (id := 6) (N := 114) [(0, .light), (1, .light), (2, .light), (3, .light), (4, .light), (5, .light), (6, .light), (7, .light), (8, .light), (9, .light), (10, .light), (11, .light), (12, .light), (13, .light), (14, .light), (15, .light), (16, .light), (17, .light), (18, .light), (19, .light), (20, .light), (21, .light), (22, .light), (23, .light), (24, .light), (25, .light), (26, .light), (27, .light), (28, .light), (29, .light), (30, .light), (31, .light), (32, .light), (33, .light), (34, .light), (35, .light), (36, .light), (37, .light), (38, .light), (39, .light), (40, .light), (41, .light), (42, .light), (43, .light), (44, .light), (45, .light), (46, .light), (47, .light), (48, .light), (49, .light), (50, .light), (51, .light)]; kernel_rfl; rfl; kernel_rfl; (repeat (first | exact Picks.nil | (apply Picks.cons; rfl)))) | (refine dw_skip ?_) | (refine dw_exit ?_)); simp (decide := true) only [go_sem, reduceIte, reduceCtorEq, n1, n2, n3, n4, n5, n6, h0]) | (apply dw_cond; (simp (decide := true) only [go_sem, reduceIte, reduceCtorEq, n1, n2, n3, n4, n5, n6, h0]; rfl); all_goals (intro hcnd; first | (exact absurd hcnd (by decide)) | skip)) | ((first | refine guardC_f ?_ ?_ | refine guardC_t ?_ ?_) <;> (intro hcnd; simp (decide := true) only [go_sem, reduceIte, reduceCtorEq, n1, n2, n3, n4, n5, n6, hcnd, h0]))))
  refine dw_rngI l (fun k => kn 114 [(0, dv (.sl 8 (l.map Ent.enc))), (3, dv (li k))] noMem) (fun k => Adj (fun x y : Ent => x.id < y.id) (l.take k) ∧ ∀ e ∈ l.take k, FewE e) (by omega) (sub_kn rfl (by simp (decide := true) only [go_sem, reduceIte, reduceCtorEq, n1, n2, n3, n4, n5, n6]) (by simp [noMem])) ⟨fun i x y h => by simp at h, by simp⟩ ?_ ?_
  · intro k e he hk hm htk hlt hw hi
    rcases Nat.eq_zero_or_pos k with hk0 | hk0
    · have hz : decide ((0 : Int) < (k : Int)) = false := by simp; omega
      cases c1 : decide ((20 : Int) < (e.links.length : Int))
      rotate_left
      · (repeat' (first | (refine dw_seq ?_) | (refine dw_block ?_) | ((first | (refine dw_reg (N := 114) rfl (by kernel_rfl) ?_) | (apply dw_drw (id := 6) (N := 114) [(0, .light), (1, .light), (2, .light), (3, .light), (4, .light), (5, .light), (6, .light), (7, .light), (8, .light), (9, .light), (10, .light), (11, .light), (12, .light), (13, .light), (14, .light), (15, .light), (16, .light), (17, .light), (18, .light), (19, .light), (20, .light), (21, .light), (22, .light), (23, .light), (24, .light), (25, .light), (26, .light), (27, .light), (28, .light), (29, .light), (30, .light), (31, .light), (32, .light), (33, .light), (34, .light), (35, .light), (36, .light), (37, .light), (38, .light), (39, .light), (40, .light), (41, .light), (42, .light), (43, .light), (44, .light), (45, .light), (46, .light), (47, .light), (48, .light), (49, .light), (50, .light), (51, .light)]; kernel_rfl; rfl; kernel_rfl; (repeat (first | exact Picks.nil | (apply Picks.cons; rfl)))) | (refine dw_skip ?_) | (refine dw_exit ?_) | (refine dw_ret ?_)); simp (decide := true) only [go_sem, reduceIte, reduceCtorEq, n1, n2, n3, n4, n5, n6, hlt, hw, he, hz, Ent.enc, c1]) | (apply dw_cond; (simp (decide := true) only [go_sem, reduceIte, reduceCtorEq, n1, n2, n3, n4, n5, n6, hlt, hw, he, hz, Ent.enc, c1]; rfl); all_goals (intro hcnd; first | (exact absurd hcnd (by decide)) | skip)) | ((first | refine guardC_f ?_ ?_ | refine guardC_t ?_ ?_) <;> (intro hcnd; simp (decide := true) only [go_sem, reduceIte, reduceCtorEq, n1, n2, n3, n4, n5, n6, hcnd, hlt, hw, he, hz, Ent.enc, c1]))))
        rw [fewB_f (fun h => by have := (h.each e hm).links; simp at c1; omega)]
      cases c2 : decide ((20 : Int) < (e.senses.length : Int))
      rotate_left
      · (repeat' (first | (refine dw_seq ?_) | (refine dw_block ?_) | ((first | (refine dw_reg (N := 114) rfl (by kernel_rfl) ?_) | (apply dw_drw (id := 6) (N := 114) [(0, .light), (1, .light), (2, .light), (3, .light), (4, .light), (5, .light), (6, .light), (7, .light), (8, .light), (9, .light), (10, .light), (11, .light), (12, .light), (13, .light), (14, .light), (15, .light), (16, .light), (17, .light), (18, .light), (19, .light), (20, .light), (21, .light), (22, .light), (23, .light), (24, .light), (25, .light), (26, .light), (27, .light), (28, .light), (29, .light), (30, .light), (31, .light), (32, .light), (33, .light), (34, .light), (35, .light), (36, .light), (37, .light), (38, .light), (39, .light), (40, .light), (41, .light), (42, .light), (43, .light), (44, .light), (45, .light), (46, .light), (47, .light), (48, .light), (49, .light), (50, .light), (51, .light)]; kernel_rfl; rfl; kernel_rfl; (repeat (first | exact Picks.nil | (apply Picks.cons; rfl)))) | (refine dw_skip ?_) | (refine dw_exit ?_) | (refine dw_ret ?_)); simp (decide := true) only [go_sem, reduceIte, reduceCtorEq, n1, n2, n3, n4, n5, n6, hlt, hw, he, hz, Ent.enc, c1, c2]) | (apply dw_cond; (simp (decide := true) only [go_sem, reduceIte, reduceCtorEq, n1, n2, n3, n4, n5, n6, hlt, hw, he, hz, Ent.enc, c1, c2]; rfl); all_goals (intro hcnd; first | (exact absurd hcnd (by decide)) | skip)) | ((first | refine guardC_f ?_ ?_ | refine guardC_t ?_ ?_) <;> (intro hcnd; simp (decide := true) only [go_sem, reduceIte, reduceCtorEq, n1, n2, n3, n4, n5, n6, hcnd, hlt, hw, he, hz, Ent.enc, c1, c2]))))
        rw [fewB_f (fun h => by have := (h.each e hm).senses; simp at c2; omega)]
      cases c3 : decide ((20 : Int) < (e.alts.length : Int))
      rotate_left
      · (repeat' (first | (refine dw_seq ?_) | (refine dw_block ?_) | ((first | (refine dw_reg (N := 114) rfl (by kernel_rfl) ?_) | (apply dw_drw (id := 6) (N := 114) [(0, .light), (1, .light), (2, .light), (3, .light), (4, .light), (5, .light), (6, .light), (7, .light), (8, .light), (9, .light), (10, .light), (11, .light), (12, .light), (13, .light), (14, .light), (15, .light), (16, .light), (17, .light), (18, .light), (19, .light), (20, .light), (21, .light), (22, .light), (23, .light), (24, .light), (25, .light), (26, .light), (27, .light), (28, .light), (29, .light), (30, .light), (31, .light), (32, .light), (33, .light), (34, .light), (35, .light), (36, .light), (37, .light), (38, .light), (39, .light), (40, .light), (41, .light), (42, .light), (43, .light), (44, .light), (45, .light), (46, .light), (47, .light), (48, .light), (49, .light), (50, .light), (51, .light)]; kernel_rfl; rfl; kernel_rfl; (repeat (first | exact Picks.nil | (apply Picks.cons; rfl)))) | (refine dw_skip ?_) | (refine dw_exit ?_) | (refine dw_ret ?_)); simp (decide := true) only [go_sem, reduceIte, reduceCtorEq, n1, n2, n3, n4, n5, n6, hlt, hw, he, hz, Ent.enc, c1, c2, c3]) | (apply dw_cond; (simp (decide := true) only [go_sem, reduceIte, reduceCtorEq, n1, n2, n3, n4, n5, n6, hlt, hw, he, hz, Ent.enc, c1, c2, c3]; rfl); all_goals (intro hcnd; first | (exact absurd hcnd (by decide)) | skip)) | ((first | refine guardC_f ?_ ?_ | refine guardC_t ?_ ?_) <;> (intro hcnd; simp (decide := true) only [go_sem, reduceIte, reduceCtorEq, n1, n2, n3, n4, n5, n6, hcnd, hlt, hw, he, hz, Ent.enc, c1, c2, c3]))))
        rw [fewB_f (fun h => by have := (h.each e hm).alts; simp at c3; omega)]
      cases c4 : decide ((40 : Int) < (e.refs.length : Int))
      rotate_left
      · (repeat' (first | (refine dw_seq ?_) | (refine dw_block ?_) | ((first | (refine dw_reg (N := 114) rfl (by kernel_rfl) ?_) | (apply dw_drw (id := 6) (N := 114) [(0, .light), (1, .light), (2, .light), (3, .light), (4, .light), (5, .light), (6, .light), (7, .light), (8, .light), (9, .light), (10, .light), (11, .light), (12, .light), (13, .light), (14, .light), (15, .light), (16, .light), (17, .light), (18, .light), (19, .light), (20, .light), (21, .light), (22, .light), (23, .light), (24, .light), (25, .light), (26, .light), (27, .light), (28, .light), (29, .light), (30, .light), (31, .light), (32, .light), (33, .light), (34, .light), (35, .light), (36, .light), (37, .light), (38, .light), (39, .light), (40, .light), (41, .light), (42, .light), (43, .light), (44, .light), (45, .light), (46, .light), (47, .light), (48, .light), (49, .light), (50, .light), (51, .light)]; kernel_rfl; rfl; kernel_rfl; (repeat (first | exact Picks.nil | (apply Picks.cons; rfl)))) | (refine dw_skip ?_) | (refine dw_exit ?_) | (refine dw_ret ?_)); simp (decide := true) only [go_sem, reduceIte, reduceCtorEq, n1, n2, n3, n4, n5, n6, hlt, hw, he, hz, Ent.enc, c1, c2, c3, c4]) | (apply dw_cond; (simp (decide := true) only [go_sem, reduceIte, reduceCtorEq, n1, n2, n3, n4, n5, n6, hlt, hw, he, hz, Ent.enc, c1, c2, c3, c4]; rfl); all_goals (intro hcnd; first | (exact absurd hcnd (by decide)) | skip)) | ((first | refine guardC_f ?_ ?_ | refine guardC_t ?_ ?_) <;> (intro hcnd; simp (decide := true) only [go_sem, reduceIte, reduceCtorEq, n1, n2, n3, n4, n5, n6, hcnd, hlt, hw, he, hz, Ent.enc, c1, c2, c3, c4]))))
        rw [fewB_f (fun h => by have := (h.each e hm).refs; simp at c4; omega)]
      (repeat' (first | (refine dw_seq ?_) | (refine dw_block ?_) | ((first | (refine dw_reg (N := 114) rfl (by kernel_rfl) ?_) | (apply dw_drw (id := 6) (N := 114) [(0, .light), (1, .light), (2, .light), (3, .light), (4, .light), (5, .light), (6, .light), (7, .light), (8, .light), (9, .light), (10, .light), (11, .light), (12, .light), (13, .light), (14, .light), (15, .light), (16, .light), (17, .light), (18, .light), (19, .light), (20, .light), (21, .light), (22, .light), (23, .light), (24, .light), (25, .light), (26, .light), (27, .light), (28, .light), (29, .light), (30, .light), (31, .light), (32, .light), (33, .light), (34, .light), (35, .light), (36, .light), (37, .light), (38, .light), (39, .light), (40, .light), (41, .light), (42, .light), (43, .light), (44, .light), (45, .light), (46, .light), (47, .light), (48, .light), (49, .light), (50, .light), (51, .light)]; kernel_rfl; rfl; kernel_rfl; (repeat (first | exact Picks.nil | (apply Picks.cons; rfl)))) | (refine dw_skip ?_) | (refine dw_exit ?_)); simp (decide := true) only [go_sem, reduceIte, reduceCtorEq, n1, n2, n3, n4, n5, n6, hlt, hw, he, hz, Ent.enc, c1, c2, c3, c4]) | (apply dw_cond; (simp (decide := true) only [go_sem, reduceIte, reduceCtorEq, n1, n2, n3, n4, n5, n6, hlt, hw, he, hz, Ent.enc, c1, c2, c3, c4]; rfl); all_goals (intro hcnd; first | (exact absurd hcnd (by decide)) | skip)) | ((first | refine guardC_f ?_ ?_ | refine guardC_t ?_ ?_) <;> (intro hcnd; simp (decide := true) only [go_sem, reduceIte, reduceCtorEq, n1, n2, n3, n4, n5, n6, hcnd, hlt, hw, he, hz, Ent.enc, c1, c2, c3, c4]))))
      have hle : e.links.length ≤ 20 := by simp at c1; omega
      refine dw_loop_fam (fun m : Nat => kn 114 [(0, dv (.sl 8 (l.map Ent.enc))), (3, dv (li k)), (4, dv (li m))] noMem) (fun m => 1 ≤ m ∧ m ≤ 21 ∧ Adj (fun x y => lessL x y = true) (e.links.take m)) (fun m => 21 - m) 1 (sub_kn rfl (by simp (decide := true) only [go_sem, reduceIte, reduceCtorEq, n1, n2, n3, n4, n5, n6]) (by simp [noMem])) ⟨by omega, by omega, fun i x y h1 h2 => by simp [List.getElem?_take] at h2⟩ ?_
      rintro m ⟨hm1, hm2, hadj⟩
      cases hlt2 : decide ((m : Int) < (e.links.length : Int))
      · have hml : e.links.length ≤ m := by simp at hlt2; omega
        rw [List.take_of_length_le hml] at hadj
        (repeat' (first | (refine dw_seq ?_) | (refine dw_block ?_) | ((first | (refine dw_reg (N := 114) rfl (by kernel_rfl) ?_) | (apply dw_drw (id := 6) (N := 114) [(0, .light), (1, .light), (2, .light), (3, .light), (4, .light), (5, .light), (6, .light), (7, .light), (8, .light), (9, .light), (10, .light), (11, .light), (12, .light), (13, .light), (14, .light), (15, .light), (16, .light), (17, .light), (18, .light), (19, .light), (20, .light), (21, .light), (22, .light), (23, .light), (24, .light), (25, .light), (26, .light), (27, .light), (28, .light), (29, .light), (30, .light), (31, .light), (32, .light), (33, .light), (34, .light), (35, .light), (36, .light), (37, .light), (38, .light), (39, .light), (40, .light), (41, .light), (42, .light), (43, .light), (44, .light), (45, .light), (46, .light), (47, .light), (48, .light), (49, .light), (50, .light), (51, .light)]; kernel_rfl; rfl; kernel_rfl; (repeat (first | exact Picks.nil | (apply Picks.cons; rfl)))) | (refine dw_skip ?_) | (refine dw_exit ?_)); simp (decide := true) only [go_sem, reduceIte, reduceCtorEq, n1, n2, n3, n4, n5, n6, hw, he, Ent.enc, hlt2]) | (apply dw_cond; (simp (decide := true) only [go_sem, reduceIte, reduceCtorEq, n1, n2, n3, n4, n5, n6, hw, he, Ent.enc, hlt2]; rfl); all_goals (intro hcnd; first | (exact absurd hcnd (by decide)) | skip)) | ((first | refine guardC_f ?_ ?_ | refine guardC_t ?_ ?_) <;> (intro hcnd; simp (decide := true) only [go_sem, reduceIte, reduceCtorEq, n1, n2, n3, n4, n5, n6, hcnd, hw, he, Ent.enc, hlt2]))))
        refine ⟨⟨hi.1.snoc he fun y h _ => absurd h (by omega), forall_snoc htk hi.2 ⟨hle, by simp at c2; omega, by simp at c3; omega, by simp at c4; omega, hadj⟩⟩, sub_kn rfl (by simp (decide := true) only [go_sem, reduceIte, reduceCtorEq, n1, n2, n3, n4, n5, n6]) (by simp [noMem])⟩
      have hml : m < e.links.length := by simpa using hlt2
      have hy : e.links[m]? = some e.links[m] := List.getElem?_eq_getElem hml
      have hx : e.links[m - 1]? = some e.links[m - 1] := List.getElem?_eq_getElem (by omega)
      have hw1 : IntKind.wrap .i64 ((m : Int) - 1) = ((m - 1 : Nat) : Int) := by rw [wrap_i64 (by omega) (by omega)]; omega
      have hw2 : IntKind.wrap .i64 ((m : Int) + 1) = ((m + 1 : Nat) : Int) := wrap_succ m (by omega)
      obtain ⟨x, hxe⟩ : ∃ x, x = e.links[m - 1] := ⟨_, rfl⟩
      obtain ⟨y, hye⟩ : ∃ y, y = e.links[m] := ⟨_, rfl⟩
      rw [← hxe] at hx
      rw [← hye] at hy
      have hbad : lessL x y = false → fewB l = false := fun h => fewB_f fun hf => by
        have := (hf.each e hm).up (m - 1) x y hx (by rw [show m - 1 + 1 = m by omega]; exact hy)
        exact absurd this (by simp [h])
      have hgood : lessL x y = true → Adj (fun x y => lessL x y = true) (e.links.take (m + 1)) := fun h => hadj.snoc hy fun z _ hz => by rw [hx] at hz; injection hz with hz; rw [← hz]; exact h
      cases d1 : decide (y.kind < x.kind)
      · cases d2 : (x.kind == y.kind)
        · (repeat' (first | (refine dw_seq ?_) | (refine dw_block ?_) | ((first | (refine dw_reg (N := 114) rfl (by kernel_rfl) ?_) | (apply dw_drw (id := 6) (N := 114) [(0, .light), (1, .light), (2, .light), (3, .light), (4, .light), (5, .light), (6, .light), (7, .light), (8, .light), (9, .light), (10, .light), (11, .light), (12, .light), (13, .light), (14, .light), (15, .light), (16, .light), (17, .light), (18, .light), (19, .light), (20, .light), (21, .light), (22, .light), (23, .light), (24, .light), (25, .light), (26, .light), (27, .light), (28, .light), (29, .light), (30, .light), (31, .light), (32, .light), (33, .light), (34, .light), (35, .light), (36, .light), (37, .light), (38, .light), (39, .light), (40, .light), (41, .light), (42, .light), (43, .light), (44, .light), (45, .light), (46, .light), (47, .light), (48, .light), (49, .light), (50, .light), (51, .light)]; kernel_rfl; rfl; kernel_rfl; (repeat (first | exact Picks.nil | (apply Picks.cons; rfl)))) | (refine dw_skip ?_) | (refine dw_exit ?_)); simp (decide := true) only [go_sem, reduceIte, reduceCtorEq, n1, n2, n3, n4, n5, n6, hw, he, Ent.enc, hlt2, hw1, hw2, hx, hy, d1, d2, Lnk.enc, Lnk.row]) | (apply dw_cond; (simp (decide := true) only [go_sem, reduceIte, reduceCtorEq, n1, n2, n3, n4, n5, n6, hw, he, Ent.enc, hlt2, hw1, hw2, hx, hy, d1, d2, Lnk.enc, Lnk.row]; rfl); all_goals (intro hcnd; first | (exact absurd hcnd (by decide)) | skip)) | ((first | refine guardC_f ?_ ?_ | refine guardC_t ?_ ?_) <;> (intro hcnd; simp (decide := true) only [go_sem, reduceIte, reduceCtorEq, n1, n2, n3, n4, n5, n6, hcnd, hw, he, Ent.enc, hlt2, hw1, hw2, hx, hy, d1, d2, Lnk.enc, Lnk.row]))))
          refine ⟨m + 1, ⟨by omega, by omega, hgood (by simp at d1 d2; simp [lessL]; omega)⟩, by omega, sub_kn rfl (by simp (decide := true) only [go_sem, reduceIte, reduceCtorEq, n1, n2, n3, n4, n5, n6]) (by simp [noMem])⟩
        · cases d3 : decide (y.to ≤ x.to)
          · (repeat' (first | (refine dw_seq ?_) | (refine dw_block ?_) | ((first | (refine dw_reg (N := 114) rfl (by kernel_rfl) ?_) | (apply dw_drw (id := 6) (N := 114) [(0, .light), (1, .light), (2, .light), (3, .light), (4, .light), (5, .light), (6, .light), (7, .light), (8, .light), (9, .light), (10, .light), (11, .light), (12, .light), (13, .light), (14, .light), (15, .light), (16, .light), (17, .light), (18, .light), (19, .light), (20, .light), (21, .light), (22, .light), (23, .light), (24, .light), (25, .light), (26, .light), (27, .light), (28, .light), (29, .light), (30, .light), (31, .light), (32, .light), (33, .light), (34, .light), (35, .light), (36, .light), (37, .light), (38, .light), (39, .light), (40, .light), (41, .light), (42, .light), (43, .light), (44, .light), (45, .light), (46, .light), (47, .light), (48, .light), (49, .light), (50, .light), (51, .light)]; kernel_rfl; rfl; kernel_rfl; (repeat (first | exact Picks.nil | (apply Picks.cons; rfl)))) | (refine dw_skip ?_) | (refine dw_exit ?_)); simp (decide := true) only [go_sem, reduceIte, reduceCtorEq, n1, n2, n3, n4, n5, n6, hw, he, Ent.enc, hlt2, hw1, hw2, hx, hy, d1, d2, d3, Lnk.enc, Lnk.row]) | (apply dw_cond; (simp (decide := true) only [go_sem, reduceIte, reduceCtorEq, n1, n2, n3, n4, n5, n6, hw, he, Ent.enc, hlt2, hw1, hw2, hx, hy, d1, d2, d3, Lnk.enc, Lnk.row]; rfl); all_goals (intro hcnd; first | (exact absurd hcnd (by decide)) | skip)) | ((first | refine guardC_f ?_ ?_ | refine guardC_t ?_ ?_) <;> (intro hcnd; simp (decide := true) only [go_sem, reduceIte, reduceCtorEq, n1, n2, n3, n4, n5, n6, hcnd, hw, he, Ent.enc, hlt2, hw1, hw2, hx, hy, d1, d2, d3, Lnk.enc, Lnk.row]))))
            refine ⟨m + 1, ⟨by omega, by omega, hgood (by simp at d1 d2 d3; simp [lessL]; omega)⟩, by omega, sub_kn rfl (by simp (decide := true) only [go_sem, reduceIte, reduceCtorEq, n1, n2, n3, n4, n5, n6]) (by simp [noMem])⟩
          · (repeat' (first | (refine dw_seq ?_) | (refine dw_block ?_) | ((first | (refine dw_reg (N := 114) rfl (by kernel_rfl) ?_) | (apply dw_drw (id := 6) (N := 114) [(0, .light), (1, .light), (2, .light), (3, .light), (4, .light), (5, .light), (6, .light), (7, .light), (8, .light), (9, .light), (10, .light), (11, .light), (12, .light), (13, .light), (14, .light), (15, .light), (16, .light), (17, .light), (18, .light), (19, .light), (20, .light), (21, .light), (22, .light), (23, .light), (24, .light), (25, .light), (26, .light), (27, .light), (28, .light), (29, .light), (30, .light), (31, .light), (32, .light), (33, .light), (34, .light), (35, .light), (36, .light), (37, .light), (38, .light), (39, .light), (40, .light), (41, .light), (42, .light), (43, .light), (44, .light), (45, .light), (46, .light), (47, .light), (48, .light), (49, .light), (50, .light), (51, .light)]; kernel_rfl; rfl; kernel_rfl; (repeat (first | exact Picks.nil | (apply Picks.cons; rfl)))) | (refine dw_skip ?_) | (refine dw_exit ?_) | (refine dw_ret ?_)); simp (decide := true) only [go_sem, reduceIte, reduceCtorEq, n1, n2, n3, n4, n5, n6, hw, he, Ent.enc, hlt2, hw1, hw2, hx, hy, d1, d2, d3, Lnk.enc, Lnk.row]) | (apply dw_cond; (simp (decide := true) only [go_sem, reduceIte, reduceCtorEq, n1, n2, n3, n4, n5, n6, hw, he, Ent.enc, hlt2, hw1, hw2, hx, hy, d1, d2, d3, Lnk.enc, Lnk.row]; rfl); all_goals (intro hcnd; first | (exact absurd hcnd (by decide)) | skip)) | ((first | refine guardC_f ?_ ?_ | refine guardC_t ?_ ?_) <;> (intro hcnd; simp (decide := true) only [go_sem, reduceIte, reduceCtorEq, n1, n2, n3, n4, n5, n6, hcnd, hw, he, Ent.enc, hlt2, hw1, hw2, hx, hy, d1, d2, d3, Lnk.enc, Lnk.row]))))
            rw [hbad (by simp at d1 d2 d3; simp [lessL]; omega)]
      · (repeat' (first | (refine dw_seq ?_) | (refine dw_block ?_) | ((first | (refine dw_reg (N := 114) rfl (by kernel_rfl) ?_) | (apply dw_drw (id := 6) (N := 114) [(0, .light), (1, .light), (2, .light), (3, .light), (4, .light), (5, .light), (6, .light), (7, .light), (8, .light), (9, .light), (10, .light), (11, .light), (12, .light), (13, .light), (14, .light), (15, .light), (16, .light), (17, .light), (18, .light), (19, .light), (20, .light), (21, .light), (22, .light), (23, .light), (24, .light), (25, .light), (26, .light), (27, .light), (28, .light), (29, .light), (30, .light), (31, .light), (32, .light), (33, .light), (34, .light), (35, .light), (36, .light), (37, .light), (38, .light), (39, .light), (40, .light), (41, .light), (42, .light), (43, .light), (44, .light), (45, .light), (46, .light), (47, .light), (48, .light), (49, .light), (50, .light), (51, .light)]; kernel_rfl; rfl; kernel_rfl; (repeat (first | exact Picks.nil | (apply Picks.cons; rfl)))) | (refine dw_skip ?_) | (refine dw_exit ?_) | (refine dw_ret ?_)); simp (decide := true) only [go_sem, reduceIte, reduceCtorEq, n1, n2, n3, n4, n5, n6, hw, he, Ent.enc, hlt2, hw1, hw2, hx, hy, d1, Lnk.enc, Lnk.row]) | (apply dw_cond; (simp (decide := true) only [go_sem, reduceIte, reduceCtorEq, n1, n2, n3, n4, n5, n6, hw, he, Ent.enc, hlt2, hw1, hw2, hx, hy, d1, Lnk.enc, Lnk.row]; rfl); all_goals (intro hcnd; first | (exact absurd hcnd (by decide)) | skip)) | ((first | refine guardC_f ?_ ?_ | refine guardC_t ?_ ?_) <;> (intro hcnd; simp (decide := true) only [go_sem, reduceIte, reduceCtorEq, n1, n2, n3, n4, n5, n6, hcnd, hw, he, Ent.enc, hlt2, hw1, hw2, hx, hy, d1, Lnk.enc, Lnk.row]))))
        rw [hbad (by simp at d1; simp [lessL]; omega)]
    · have hz : decide ((0 : Int) < (k : Int)) = true := by simp; omega
      have hp : l[k - 1]? = some l[k - 1] := List.getElem?_eq_getElem (by omega)
      obtain ⟨p, hpe⟩ : ∃ p, p = l[k - 1] := ⟨_, rfl⟩
      rw [← hpe] at hp
      have hwk : IntKind.wrap .i64 ((k : Int) - 1) = ((k - 1 : Nat) : Int) := by rw [wrap_i64 (by omega) (by omega)]; omega
      cases hid : decide (e.id ≤ p.id)
      rotate_left
      · (repeat' (first | (refine dw_seq ?_) | (refine dw_block ?_) | ((first | (refine dw_reg (N := 114) rfl (by kernel_rfl) ?_) | (apply dw_drw (id := 6) (N := 114) [(0, .light), (1, .light), (2, .light), (3, .light), (4, .light), (5, .light), (6, .light), (7, .light), (8, .light), (9, .light), (10, .light), (11, .light), (12, .light), (13, .light), (14, .light), (15, .light), (16, .light), (17, .light), (18, .light), (19, .light), (20, .light), (21, .light), (22, .light), (23, .light), (24, .light), (25, .light), (26, .light), (27, .light), (28, .light), (29, .light), (30, .light), (31, .light), (32, .light), (33, .light), (34, .light), (35, .light), (36, .light), (37, .light), (38, .light), (39, .light), (40, .light), (41, .light), (42, .light), (43, .light), (44, .light), (45, .light), (46, .light), (47, .light), (48, .light), (49, .light), (50, .light), (51, .light)]; kernel_rfl; rfl; kernel_rfl; (repeat (first | exact Picks.nil | (apply Picks.cons; rfl)))) | (refine dw_skip ?_) | (refine dw_exit ?_) | (refine dw_ret ?_)); simp (decide := true) only [go_sem, reduceIte, reduceCtorEq, n1, n2, n3, n4, n5, n6, hlt, hw, he, hz, hp, hwk, hid, Ent.enc]) | (apply dw_cond; (simp (decide := true) only [go_sem, reduceIte, reduceCtorEq, n1, n2, n3, n4, n5, n6, hlt, hw, he, hz, hp, hwk, hid, Ent.enc]; rfl); all_goals (intro hcnd; first | (exact absurd hcnd (by decide)) | skip)) | ((first | refine guardC_f ?_ ?_ | refine guardC_t ?_ ?_) <;> (intro hcnd; simp (decide := true) only [go_sem, reduceIte, reduceCtorEq, n1, n2, n3, n4, n5, n6, hcnd, hlt, hw, he, hz, hp, hwk, hid, Ent.enc]))))
        rw [fewB_f (fun h => by have := h.ids (k - 1) p e hp (by rw [show k - 1 + 1 = k by omega]; exact he); simp at hid; omega)]
      cases c1 : decide ((20 : Int) < (e.links.length : Int))
      rotate_left
      · (repeat' (first | (refine dw_seq ?_) | (refine dw_block ?_) | ((first | (refine dw_reg (N := 114) rfl (by kernel_rfl) ?_) | (apply dw_drw (id := 6) (N := 114) [(0, .light), (1, .light), (2, .light), (3, .light), (4, .light), (5, .light), (6, .light), (7, .light), (8, .light), (9, .light), (10, .light), (11, .light), (12, .light), (13, .light), (14, .light), (15, .light), (16, .light), (17, .light), (18, .light), (19, .light), (20, .light), (21, .light), (22, .light), (23, .light), (24, .light), (25, .light), (26, .light), (27, .light), (28, .light), (29, .light), (30, .light), (31, .light), (32, .light), (33, .light), (34, .light), (35, .light), (36, .light), (37, .light), (38, .light), (39, .light), (40, .light), (41, .light), (42, .light), (43, .light), (44, .light), (45, .light), (46, .light), (47, .light), (48, .light), (49, .light), (50, .light), (51, .light)]; kernel_rfl; rfl; kernel_rfl; (repeat (first | exact Picks.nil | (apply Picks.cons; rfl)))) | (refine dw_skip ?_) | (refine dw_exit ?_) | (refine dw_ret ?_)); simp (decide := true) only [go_sem, reduceIte, reduceCtorEq, n1, n2, n3, n4, n5, n6, hlt, hw, he, hz, hp, hwk, hid, Ent.enc, c1]) | (apply dw_cond; (simp (decide := true) only [go_sem, reduceIte, reduceCtorEq, n1, n2, n3, n4, n5, n6, hlt, hw, he, hz, hp, hwk, hid, Ent.enc, c1]; rfl); all_goals (intro hcnd; first | (exact absurd hcnd (by decide)) | skip)) | ((first | refine guardC_f ?_ ?_ | refine guardC_t ?_ ?_) <;> (intro hcnd; simp (decide := true) only [go_sem, reduceIte, reduceCtorEq, n1, n2, n3, n4, n5, n6, hcnd, hlt, hw, he, hz, hp, hwk, hid, Ent.enc, c1]))))
        rw [fewB_f (fun h => by have := (h.each e hm).links; simp at c1; omega)]
      cases c2 : decide ((20 : Int) < (e.senses.length : Int))
      rotate_left
      · (repeat' (first | (refine dw_seq ?_) | (refine dw_block ?_) | ((first | (refine dw_reg (N := 114) rfl (by kernel_rfl) ?_) | (apply dw_drw (id := 6) (N := 114) [(0, .light), (1, .light), (2, .light), (3, .light), (4, .light), (5, .light), (6, .light), (7, .light), (8, .light), (9, .light), (10, .light), (11, .light), (12, .light), (13, .light), (14, .light), (15, .light), (16, .light), (17, .light), (18, .light), (19, .light), (20, .light), (21, .light), (22, .light), (23, .light), (24, .light), (25, .light), (26, .light), (27, .light), (28, .light), (29, .light), (30, .light), (31, .light), (32, .light), (33, .light), (34, .light), (35, .light), (36, .light), (37, .light), (38, .light), (39, .light), (40, .light), (41, .light), (42, .light), (43, .light), (44, .light), (45, .light), (46, .light), (47, .light), (48, .light), (49, .light), (50, .light), (51, .light)]; kernel_rfl; rfl; kernel_rfl; (repeat (first | exact Picks.nil | (apply Picks.cons; rfl)))) | (refine dw_skip ?_) | (refine dw_exit ?_) | (refine dw_ret ?_)); simp (decide := true) only [go_sem, reduceIte, reduceCtorEq, n1, n2, n3, n4, n5, n6, hlt, hw, he, hz, hp, hwk, hid, Ent.enc, c1, c2]) | (apply dw_cond; (simp (decide := true) only [go_sem, reduceIte, reduceCtorEq, n1, n2, n3, n4, n5, n6, hlt, hw, he, hz, hp, hwk, hid, Ent.enc, c1, c2]; rfl); all_goals (intro hcnd; first | (exact absurd hcnd (by decide)) | skip)) | ((first | refine guardC_f ?_ ?_ | refine guardC_t ?_ ?_) <;> (intro hcnd; simp (decide := true) only [go_sem, reduceIte, reduceCtorEq, n1, n2, n3, n4, n5, n6, hcnd, hlt, hw, he, hz, hp, hwk, hid, Ent.enc, c1, c2]))))
        rw [fewB_f (fun h => by have := (h.each e hm).senses; simp at c2; omega)]
      cases c3 : decide ((20 : Int) < (e.alts.length : Int))
      rotate_left
      · (repeat' (first | (refine dw_seq ?_) | (refine dw_block ?_) | ((first | (refine dw_reg (N := 114) rfl (by kernel_rfl) ?_) | (apply dw_drw (id := 6) (N := 114) [(0, .light), (1, .light), (2, .light), (3, .light), (4, .light), (5, .light), (6, .light), (7, .light), (8, .light), (9, .light), (10, .light), (11, .light), (12, .light), (13, .light), (14, .light), (15, .light), (16, .light), (17, .light), (18, .light), (19, .light), (20, .light), (21, .light), (22, .light), (23, .light), (24, .light), (25, .light), (26, .light), (27, .light), (28, .light), (29, .light), (30, .light), (31, .light), (32, .light), (33, .light), (34, .light), (35, .light), (36, .light), (37, .light), (38, .light), (39, .light), (40, .light), (41, .light), (42, .light), (43, .light), (44, .light), (45, .light), (46, .light), (47, .light), (48, .light), (49, .light), (50, .light), (51, .light)]; kernel_rfl; rfl; kernel_rfl; (repeat (first | exact Picks.nil | (apply Picks.cons; rfl)))) | (refine dw_skip ?_) | (refine dw_exit ?_) | (refine dw_ret ?_)); simp (decide := true) only [go_sem, reduceIte, reduceCtorEq, n1, n2, n3, n4, n5, n6, hlt, hw, he, hz, hp, hwk, hid, Ent.enc, c1, c2, c3]) | (apply dw_cond; (simp (decide := true) only [go_sem, reduceIte, reduceCtorEq, n1, n2, n3, n4, n5, n6, hlt, hw, he, hz, hp, hwk, hid, Ent.enc, c1, c2, c3]; rfl); all_goals (intro hcnd; first | (exact absurd hcnd (by decide)) | skip)) | ((first | refine guardC_f ?_ ?_ | refine guardC_t ?_ ?_) <;> (intro hcnd; simp (decide := true) only [go_sem, reduceIte, reduceCtorEq, n1, n2, n3, n4, n5, n6, hcnd, hlt, hw, he, hz, hp, hwk, hid, Ent.enc, c1, c2, c3]))))
        rw [fewB_f (fun h => by have := (h.each e hm).alts; simp at c3; omega)]
      cases c4 : decide ((40 : Int) < (e.refs.length : Int))
      rotate_left
      · (repeat' (first | (refine dw_seq ?_) | (refine dw_block ?_) | ((first | (refine dw_reg (N := 114) rfl (by kernel_rfl) ?_) | (apply dw_drw (id := 6) (N := 114) [(0, .light), (1, .light), (2, .light), (3, .light), (4, .light), (5, .light), (6, .light), (7, .light), (8, .light), (9, .light), (10, .light), (11, .light), (12, .light), (13, .light), (14, .light), (15, .light), (16, .light), (17, .light), (18, .light), (19, .light), (20, .light), (21, .light), (22, .light), (23, .light), (24, .light), (25, .light), (26, .light), (27, .light), (28, .light), (29, .light), (30, .light), (31, .light), (32, .light), (33, .light), (34, .light), (35, .light), (36, .light), (37, .light), (38, .light), (39, .light), (40, .light), (41, .light), (42, .light), (43, .light), (44, .light), (45, .light), (46, .light), (47, .light), (48, .light), (49, .light), (50, .light), (51, .light)]; kernel_rfl; rfl; kernel_rfl; (repeat (first | exact Picks.nil | (apply Picks.cons; rfl)))) | (refine dw_skip ?_) | (refine dw_exit ?_) | (refine dw_ret ?_)); simp (decide := true) only [go_sem, reduceIte, reduceCtorEq, n1, n2, n3, n4, n5, n6, hlt, hw, he, hz, hp, hwk, hid, Ent.enc, c1, c2, c3, c4]) | (apply dw_cond; (simp (decide := true) only [go_sem, reduceIte, reduceCtorEq, n1, n2, n3, n4, n5, n6, hlt, hw, he, hz, hp, hwk, hid, Ent.enc, c1, c2, c3, c4]; rfl); all_goals (intro hcnd; first | (exact absurd hcnd (by decide)) | skip)) | ((first | refine guardC_f ?_ ?_ | refine guardC_t ?_ ?_) <;> (intro hcnd; simp (decide := true) only [go_sem, reduceIte, reduceCtorEq, n1, n2, n3, n4, n5, n6, hcnd, hlt, hw, he, hz, hp, hwk, hid, Ent.enc, c1, c2, c3, c4]))))
        rw [fewB_f (fun h => by have := (h.each e hm).refs; simp at c4; omega)]
      (repeat' (first | (refine dw_seq ?_) | (refine dw_block ?_) | ((first | (refine dw_reg (N := 114) rfl (by kernel_rfl) ?_) | (apply dw_drw (id := 6) (N := 114) [(0, .light), (1, .light), (2, .light), (3, .light), (4, .light), (5, .light), (6, .light), (7, .light), (8, .light), (9, .light), (10, .light), (11, .light), (12, .light), (13, .light), (14, .light), (15, .light), (16, .light), (17, .light), (18, .light), (19, .light), (20, .light), (21, .light), (22, .light), (23, .light), (24, .light), (25, .light), (26, .light), (27, .light), (28, .light), (29, .light), (30, .light), (31, .light), (32, .light), (33, .light), (34, .light), (35, .light), (36, .light), (37, .light), (38, .light), (39, .light), (40, .light), (41, .light), (42, .light), (43, .light), (44, .light), (45, .light), (46, .light), (47, .light), (48, .light), (49, .light), (50, .light), (51, .light)]; kernel_rfl; rfl; kernel_rfl; (repeat (first | exact Picks.nil | (apply Picks.cons; rfl)))) | (refine dw_skip ?_) | (refine dw_exit ?_)); simp (decide := true) only [go_sem, reduceIte, reduceCtorEq, n1, n2, n3, n4, n5, n6, hlt, hw, he, hz, hp, hwk, hid, Ent.enc, c1, c2, c3, c4]) | (apply dw_cond; (simp (decide := true) only [go_sem, reduceIte, reduceCtorEq, n1, n2, n3, n4, n5, n6, hlt, hw, he, hz, hp, hwk, hid, Ent.enc, c1, c2, c3, c4]; rfl); all_goals (intro hcnd; first | (exact absurd hcnd (by decide)) | skip)) | ((first | refine guardC_f ?_ ?_ | refine guardC_t ?_ ?_) <;> (intro hcnd; simp (decide := true) only [go_sem, reduceIte, reduceCtorEq, n1, n2, n3, n4, n5, n6, hcnd, hlt, hw, he, hz, hp, hwk, hid, Ent.enc, c1, c2, c3, c4]))))
      have hle : e.links.length ≤ 20 := by simp at c1; omega
      refine dw_loop_fam (fun m : Nat => kn 114 [(0, dv (.sl 8 (l.map Ent.enc))), (3, dv (li k)), (4, dv (li m))] noMem) (fun m => 1 ≤ m ∧ m ≤ 21 ∧ Adj (fun x y => lessL x y = true) (e.links.take m)) (fun m => 21 - m) 1 (sub_kn rfl (by simp (decide := true) only [go_sem, reduceIte, reduceCtorEq, n1, n2, n3, n4, n5, n6]) (by simp [noMem])) ⟨by omega, by omega, fun i x y h1 h2 => by simp [List.getElem?_take] at h2⟩ ?_
      rintro m ⟨hm1, hm2, hadj⟩
      cases hlt2 : decide ((m : Int) < (e.links.length : Int))
      · have hml : e.links.length ≤ m := by simp at hlt2; omega
        rw [List.take_of_length_le hml] at hadj
        (repeat' (first | (refine dw_seq ?_) | (refine dw_block ?_) | ((first | (refine dw_reg (N := 114) rfl (by kernel_rfl) ?_) | (apply dw_drw (id := 6) (N := 114) [(0, .light), (1, .light), (2, .light), (3, .light), (4, .light), (5, .light), (6, .light), (7, .light), (8, .light), (9, .light), (10, .light), (11, .light), (12, .light), (13, .light), (14, .light), (15, .light), (16, .light), (17, .light), (18, .light), (19, .light), (20, .light), (21, .light), (22, .light), (23, .light), (24, .light), (25, .light), (26, .light), (27, .light), (28, .light), (29, .light), (30, .light), (31, .light), (32, .light), (33, .light), (34, .light), (35, .light), (36, .light), (37, .light), (38, .light), (39, .light), (40, .light), (41, .light), (42, .light), (43, .light), (44, .light), (45, .light), (46, .light), (47, .light), (48, .light), (49, .light), (50, .light), (51, .light)]; kernel_rfl; rfl; kernel_rfl; (repeat (first | exact Picks.nil | (apply Picks.cons; rfl)))) | (refine dw_skip ?_) | (refine dw_exit ?_)); simp (decide := true) only [go_sem, reduceIte, reduceCtorEq, n1, n2, n3, n4, n5, n6, hw, he, Ent.enc, hlt2]) | (apply dw_cond; (simp (decide := true) only [go_sem, reduceIte, reduceCtorEq, n1, n2, n3, n4, n5, n6, hw, he, Ent.enc, hlt2]; rfl); all_goals (intro hcnd; first | (exact absurd hcnd (by decide)) | skip)) | ((first | refine guardC_f ?_ ?_ | refine guardC_t ?_ ?_) <;> (intro hcnd; simp (decide := true) only [go_sem, reduceIte, reduceCtorEq, n1, n2, n3, n4, n5, n6, hcnd, hw, he, Ent.enc, hlt2]))))
        refine ⟨⟨hi.1.snoc he fun y _ hy => by rw [hp] at hy; injection hy with hy; rw [← hy]; simp at hid; omega, forall_snoc htk hi.2 ⟨hle, by simp at c2; omega, by simp at c3; omega, by simp at c4; omega, hadj⟩⟩, sub_kn rfl (by simp (decide := true) only [go_sem, reduceIte, reduceCtorEq, n1, n2, n3, n4, n5, n6]) (by simp [noMem])⟩
      have hml : m < e.links.length := by simpa using hlt2
      have hy : e.links[m]? = some e.links[m] := List.getElem?_eq_getElem hml
      have hx : e.links[m - 1]? = some e.links[m - 1] := List.getElem?_eq_getElem (by omega)
      have hw1 : IntKind.wrap .i64 ((m : Int) - 1) = ((m - 1 : Nat) : Int) := by rw [wrap_i64 (by omega) (by omega)]; omega
      have hw2 : IntKind.wrap .i64 ((m : Int) + 1) = ((m + 1 : Nat) : Int) := wrap_succ m (by omega)
      obtain ⟨x, hxe⟩ : ∃ x, x = e.links[m - 1] := ⟨_, rfl⟩
      obtain ⟨y, hye⟩ : ∃ y, y = e.links[m] := ⟨_, rfl⟩
      rw [← hxe] at hx
      rw [← hye] at hy
      have hbad : lessL x y = false → fewB l = false := fun h => fewB_f fun hf => by
        have := (hf.each e hm).up (m - 1) x y hx (by rw [show m - 1 + 1 = m by omega]; exact hy)
        exact absurd this (by simp [h])
      have hgood : lessL x y = true → Adj (fun x y => lessL x y = true) (e.links.take (m + 1)) := fun h => hadj.snoc hy fun z _ hz => by rw [hx] at hz; injection hz with hz; rw [← hz]; exact h
      cases d1 : decide (y.kind < x.kind)
      · cases d2 : (x.kind == y.kind)
        · (repeat' (first | (refine dw_seq ?_) | (refine dw_block ?_) | ((first | (refine dw_reg (N := 114) rfl (by kernel_rfl) ?_) | (apply dw_drw (id := 6) (N := 114) [(0, .light), (1, .light), (2, .light), (3, .light), (4, .light), (5, .light), (6, .light), (7, .light), (8, .light), (9, .light), (10, .light), (11, .light), (12, .light), (13, .light), (14, .light), (15, .light), (16, .light), (17, .light), (18, .light), (19, .light), (20, .light), (21, .light), (22, .light), (23, .light), (24, .light), (25, .light), (26, .light), (27, .light), (28, .light), (29, .light), (30, .light), (31, .light), (32, .light), (33, .light), (34, .light), (35, .light), (36, .light), (37, .light), (38, .light), (39, .light), (40, .light), (41, .light), (42, .light), (43, .light), (44, .light), (45, .light), (46, .light), (47, .light), (48, .light), (49, .light), (50, .light), (51, .light)]; kernel_rfl; rfl; kernel_rfl; (repeat (first | exact Picks.nil | (apply Picks.cons; rfl)))) | (refine dw_skip ?_) | (refine dw_exit ?_)); simp (decide := true) only [go_sem, reduceIte, reduceCtorEq, n1, n2, n3, n4, n5, n6, hw, he, Ent.enc, hlt2, hw1, hw2, hx, hy, d1, d2, Lnk.enc, Lnk.row]) | (apply dw_cond; (simp (decide := true) only [go_sem, reduceIte, reduceCtorEq, n1, n2, n3, n4, n5, n6, hw, he, Ent.enc, hlt2, hw1, hw2, hx, hy, d1, d2, Lnk.enc, Lnk.row]; rfl); all_goals (intro hcnd; first | (exact absurd hcnd (by decide)) | skip)) | ((first | refine guardC_f ?_ ?_ | refine guardC_t ?_ ?_) <;> (intro hcnd; simp (decide := true) only [go_sem, reduceIte, reduceCtorEq, n1, n2, n3, n4, n5, n6, hcnd, hw, he, Ent.enc, hlt2, hw1, hw2, hx, hy, d1, d2, Lnk.enc, Lnk.row]))))
          refine ⟨m + 1, ⟨by omega, by omega, hgood (by simp at d1 d2; simp [lessL]; omega)⟩, by omega, sub_kn rfl (by simp (decide := true) only [go_sem, reduceIte, reduceCtorEq, n1, n2, n3, n4, n5, n6]) (by simp [noMem])⟩
        · cases d3 : decide (y.to ≤ x.to)
          · (repeat' (first | (refine dw_seq ?_) | (refine dw_block ?_) | ((first | (refine dw_reg (N := 114) rfl (by kernel_rfl) ?_) | (apply dw_drw (id := 6) (N := 114) [(0, .light), (1, .light), (2, .light), (3, .light), (4, .light), (5, .light), (6, .light), (7, .light), (8, .light), (9, .light), (10, .light), (11, .light), (12, .light), (13, .light), (14, .light), (15, .light), (16, .light), (17, .light), (18, .light), (19, .light), (20, .light), (21, .light), (22, .light), (23, .light), (24, .light), (25, .light), (26, .light), (27, .light), (28, .light), (29, .light), (30, .light), (31, .light), (32, .light), (33, .light), (34, .light), (35, .light), (36, .light), (37, .light), (38, .light), (39, .light), (40, .light), (41, .light), (42, .light), (43, .light), (44, .light), (45, .light), (46, .light), (47, .light), (48, .light), (49, .light), (50, .light), (51, .light)]; kernel_rfl; rfl; kernel_rfl; (repeat (first | exact Picks.nil | (apply Picks.cons; rfl)))) | (refine dw_skip ?_) | (refine dw_exit ?_)); simp (decide := true) only [go_sem, reduceIte, reduceCtorEq, n1, n2, n3, n4, n5, n6, hw, he, Ent.enc, hlt2, hw1, hw2, hx, hy, d1, d2, d3, Lnk.enc, Lnk.row]) | (apply dw_cond; (simp (decide := true) only [go_sem, reduceIte, reduceCtorEq, n1, n2, n3, n4, n5, n6, hw, he, Ent.enc, hlt2, hw1, hw2, hx, hy, d1, d2, d3, Lnk.enc, Lnk.row]; rfl); all_goals (intro hcnd; first | (exact absurd hcnd (by decide)) | skip)) | ((first | refine guardC_f ?_ ?_ | refine guardC_t ?_ ?_) <;> (intro hcnd; simp (decide := true) only [go_sem, reduceIte, reduceCtorEq, n1, n2, n3, n4, n5, n6, hcnd, hw, he, Ent.enc, hlt2, hw1, hw2, hx, hy, d1, d2, d3, Lnk.enc, Lnk.row]))))
            refine ⟨m + 1, ⟨by omega, by omega, hgood (by simp at d1 d2 d3; simp [lessL]; omega)⟩, by omega, sub_kn rfl (by simp (decide := true) only [go_sem, reduceIte, reduceCtorEq, n1, n2, n3, n4, n5, n6]) (by simp [noMem])⟩
          · (repeat' (first | (refine dw_seq ?_) | (refine dw_block ?_) | ((first | (refine dw_reg (N := 114) rfl (by kernel_rfl) ?_) | (apply dw_drw (id := 6) (N := 114) [(0, .light), (1, .light), (2, .light), (3, .light), (4, .light), (5, .light), (6, .light), (7, .light), (8, .light), (9, .light), (10, .light), (11, .light), (12, .light), (13, .light), (14, .light), (15, .light), (16, .light), (17, .light), (18, .light), (19, .light), (20, .light), (21, .light), (22, .light), (23, .light), (24, .light), (25, .light), (26, .light), (27, .light), (28, .light), (29, .light), (30, .light), (31, .light), (32, .light), (33, .light), (34, .light), (35, .light), (36, .light), (37, .light), (38, .light), (39, .light), (40, .light), (41, .light), (42, .light), (43, .light), (44, .light), (45, .light), (46, .light), (47, .light), (48, .light), (49, .light), (50, .light), (51, .light)]; kernel_rfl; rfl; kernel_rfl; (repeat (first | exact Picks.nil | (apply Picks.cons; rfl)))) | (refine dw_skip ?_) | (refine dw_exit ?_) | (refine dw_ret ?_)); simp (decide := true) only [go_sem, reduceIte, reduceCtorEq, n1, n2, n3, n4, n5, n6, hw, he, Ent.enc, hlt2, hw1, hw2, hx, hy, d1, d2, d3, Lnk.enc, Lnk.row]) | (apply dw_cond; (simp (decide := true) only [go_sem, reduceIte, reduceCtorEq, n1, n2, n3, n4, n5, n6, hw, he, Ent.enc, hlt2, hw1, hw2, hx, hy, d1, d2, d3, Lnk.enc, Lnk.row]; rfl); all_goals (intro hcnd; first | (exact absurd hcnd (by decide)) | skip)) | ((first | refine guardC_f ?_ ?_ | refine guardC_t ?_ ?_) <;> (intro hcnd; simp (decide := true) only [go_sem, reduceIte, reduceCtorEq, n1, n2, n3, n4, n5, n6, hcnd, hw, he, Ent.enc, hlt2, hw1, hw2, hx, hy, d1, d2, d3, Lnk.enc, Lnk.row]))))
            rw [hbad (by simp at d1 d2 d3; simp [lessL]; omega)]
      · (repeat' (first | (refine dw_seq ?_) | (refine dw_block ?_) | ((first | (refine dw_reg (N := 114) rfl (by kernel_rfl) ?_) | (apply dw_drw (id := 6) (N := 114) [(0, .light), (1, .light), (2, .light), (3, .light), (4, .light), (5, .light), (6, .light), (7, .light), (8, .light), (9, .light), (10, .light), (11, .light), (12, .light), (13, .light), (14, .light), (15, .light), (16, .light), (17, .light), (18, .light), (19, .light), (20, .light), (21, .light), (22, .light), (23, .light), (24, .light), (25, .light), (26, .light), (27, .light), (28, .light), (29, .light), (30, .light), (31, .light), (32, .light), (33, .light), (34, .light), (35, .light), (36, .light), (37, .light), (38, .light), (39, .light), (40, .light), (41, .light), (42, .light), (43, .light), (44, .light), (45, .light), (46, .light), (47, .light), (48, .light), (49, .light), (50, .light), (51, .light)]; kernel_rfl; rfl; kernel_rfl; (repeat (first | exact Picks.nil | (apply Picks.cons; rfl)))) | (refine dw_skip ?_) | (refine dw_exit ?_) | (refine dw_ret ?_)); simp (decide := true) only [go_sem, reduceIte, reduceCtorEq, n1, n2, n3, n4, n5, n6, hw, he, Ent.enc, hlt2, hw1, hw2, hx, hy, d1, Lnk.enc, Lnk.row]) | (apply dw_cond; (simp (decide := true) only [go_sem, reduceIte, reduceCtorEq, n1, n2, n3, n4, n5, n6, hw, he, Ent.enc, hlt2, hw1, hw2, hx, hy, d1, Lnk.enc, Lnk.row]; rfl); all_goals (intro hcnd; first | (exact absurd hcnd (by decide)) | skip)) | ((first | refine guardC_f ?_ ?_ | refine guardC_t ?_ ?_) <;> (intro hcnd; simp (decide := true) only [go_sem, reduceIte, reduceCtorEq, n1, n2, n3, n4, n5, n6, hcnd, hw, he, Ent.enc, hlt2, hw1, hw2, hx, hy, d1, Lnk.enc, Lnk.row]))))
        rw [hbad (by simp at d1; simp [lessL]; omega)]
  · intro hlt hi
    rw [List.take_length] at hi
    (repeat' (first | (refine dw_seq ?_) | (refine dw_block ?_) | ((first | (refine dw_reg (N := 114) rfl (by kernel_rfl) ?_) | (apply dw_drw (id := 6) (N := 114) [(0, .light), (1, .light), (2, .light), (3, .light), (4, .light), (5, .light), (6, .light), (7, .light), (8, .light), (9, .light), (10, .light), (11, .light), (12, .light), (13, .light), (14, .light), (15, .light), (16, .light), (17, .light), (18, .light), (19, .light), (20, .light), (21, .light), (22, .light), (23, .light), (24, .light), (25, .light), (26, .light), (27, .light), (28, .light), (29, .light), (30, .light), (31, .light), (32, .light), (33, .light), (34, .light), (35, .light), (36, .light), (37, .light), (38, .light), (39, .light), (40, .light), (41, .light), (42, .light), (43, .light), (44, .light), (45, .light), (46, .light), (47, .light), (48, .light), (49, .light), (50, .light), (51, .light)]; kernel_rfl; rfl; kernel_rfl; (repeat (first | exact Picks.nil | (apply Picks.cons; rfl)))) | (refine dw_skip ?_) | (refine dw_exit ?_) | (refine dw_ret ?_)); simp (decide := true) only [go_sem, reduceIte, reduceCtorEq, n1, n2, n3, n4, n5, n6, hlt]) | (apply dw_cond; (simp (decide := true) only [go_sem, reduceIte, reduceCtorEq, n1, n2, n3, n4, n5, n6, hlt]; rfl); all_goals (intro hcnd; first | (exact absurd hcnd (by decide)) | skip)) | ((first | refine guardC_f ?_ ?_ | refine guardC_t ?_ ?_) <;> (intro hcnd; simp (decide := true) only [go_sem, reduceIte, reduceCtorEq, n1, n2, n3, n4, n5, n6, hcnd, hlt]))))
    rw [fewB_t ⟨hl, hi.1, hi.2⟩]
end Go.Proofs.Ytiecekikcegnmaa

/- Plain: what few grants; Unlink alike. -/
namespace Go.Proofs.Ytiecekikcegnmaa
open Go.Dl

theorem adj_lt {l : List Ent} (h : Adj (fun x y : Ent => x.id < y.id) l) : ∀ (d i : Nat) (x y : Ent), l[i]? = some x → l[i + 1 + d]? = some y → x.id < y.id
  | 0, i, x, y, hx, hy => h i x y hx hy
  | d + 1, i, x, y, hx, hy => by
    have hl := (List.getElem?_eq_some_iff.1 hy).1
    have hz : l[i + 1 + d]? = some l[i + 1 + d] := List.getElem?_eq_getElem (by omega)
    have h1 := adj_lt h d i x _ hx hz
    have h2 := h (i + 1 + d) _ y hz hy
    omega
theorem few_sorted {l : List Ent} (h : Few l) : (l.map (·.id)).Pairwise (· < ·) := by
  rw [List.pairwise_iff_getElem]
  intro i j hi hj hij
  have hi' : i < l.length := by simpa using hi
  have hj' : j < l.length := by simpa using hj
  simp only [List.getElem_map]
  exact adj_lt h.ids (j - i - 1) i _ _ (List.getElem?_eq_getElem hi') (by rw [show i + 1 + (j - i - 1) = j by omega]; exact List.getElem?_eq_getElem hj')
theorem few_distinct {l : List Ent} (h : Few l) : Distinct l := (few_sorted h).imp fun h => by omega
theorem few_mid {l : List Ent} (h : Few l) : MidE l := ⟨by have := h.len; omega, fun e he => by have := (h.each e he).links; omega⟩

theorem inv_or (k : Int) : inv k = -1 ∨ 0 ≤ inv k := by unfold inv; (repeat' split) <;> omega
theorem inv_ne (k : Int) (h : 0 ≤ inv k) : inv k ≠ k ↔ k ≠ 0 ∧ k ≠ 1 := by
  unfold inv at *; (repeat' split) <;> (repeat' split at h) <;> omega

theorem filt2 {α : Type} (ia ib : Bool) (p1 p2 : α → Bool) (L : List α) : L.filter (fun x => !((ia && p1 x) || (ib && p2 x))) =
    if ib = true then (if ia = true then L.filter (fun x => !p1 x) else L).filter (fun x => !p2 x) else if ia = true then L.filter (fun x => !p1 x) else L := by
  cases ia <;> cases ib <;> simp [List.filter_filter, Bool.and_comm]

theorem unP_eq (id a k b m : Int) (x : Lnk) (hm : 0 ≤ m) : unP id a k b m x = ((decide (id = a) && decide (x = ⟨k, b⟩)) || (decide (id = b) && decide (x = ⟨m, a⟩))) := by
  rw [← lnk_eq, ← lnk_eq, unP, Bool.eq_iff_iff]; simp [hm, and_assoc]
theorem unP_eq0 (id a k b m : Int) (x : Lnk) (hm : ¬ 0 ≤ m) : unP id a k b m x = ((decide (id = a) && decide (x = ⟨k, b⟩)) || (false && decide (x = ⟨m, a⟩))) := by
  rw [← lnk_eq, unP, Bool.eq_iff_iff]; simp [hm, and_assoc]

/-- Unlink's two filters are one. -/
theorem unlink_eq (l : List Ent) (a k b : Int) : unlinkK l a k b = unlinkR l a k b := by
  unfold unlinkK unlinkR
  split
  · rfl
  · congr 1
    split
    · rename_i hm
      simp only [upd, chg, List.map_map]
      apply List.map_congr_left
      intro e _
      simp only [Function.comp, unP_eq _ _ _ _ _ _ hm, filt2, outL, decide_eq_true_eq]
    · rename_i hm
      simp only [upd, chg]
      apply List.map_congr_left
      intro e _
      simp only [unP_eq0 _ _ _ _ _ _ hm, filt2, outL, decide_eq_true_eq, Bool.false_eq_true, if_false]
end Go.Proofs.Ytiecekikcegnmaa

/- Plain: Link alike, when what is reached is alike. -/
namespace Go.Proofs.Ytiecekikcegnmaa
open Go.Dl

theorem getE_id {l : List Ent} {a : Int} (h : (getE l a).2 = true) : (getE l a).1 ∈ l ∧ (getE l a).1.id = a := by
  unfold getE at *
  cases hf : l.find? (fun e => e.id == a) with
  | none => rw [hf] at h; cases h
  | some e =>
    refine ⟨List.mem_of_find?_eq_some hf, ?_⟩
    have := List.find?_some hf
    simpa using this

theorem mem_one {l : List Ent} (hd : Distinct l) {x y : Ent} (hx : x ∈ l) (hy : y ∈ l) (h : x.id = y.id) : x = y := by
  obtain ⟨i, hi⟩ := List.mem_iff_getElem?.1 hx
  obtain ⟨j, hj⟩ := List.mem_iff_getElem?.1 hy
  by_cases hij : i = j
  · subst hij; rw [hi] at hj; injection hj
  · exact absurd h (distinct_at hd hi hj hij)

theorem link_eq (l : List Ent) (hd : Distinct l) (a k b : Int) (hr : (reachK l b k).any (fun x => a == x) = (reachR l b k).any (fun x => x == a)) : linkK l a k b = linkR l a k b := by
  unfold linkK linkR
  split
  · rfl
  rename_i hf
  have ha : (getE l a).2 = true := by simp at hf; exact hf.1
  have hb : (getE l b).2 = true := by simp at hf; exact hf.2
  obtain ⟨ma, ia⟩ := getE_id ha
  obtain ⟨mb, ib⟩ := getE_id hb
  split
  · rfl
  rename_i hm
  split
  · rfl
  rename_i hab
  split
  · rfl
  rename_i hh
  split
  · rfl
  rw [hr]
  simp only [inv_ne k (by omega)]
  split
  · rfl
  congr 1
  split
  · rename_i hg
    apply List.map_congr_left
    intro e he
    congr 1
    simp only [lk1]
    split
    · rename_i h1
      have : e = (getE l a).1 := mem_one hd he ma (by rw [ia, h1])
      rw [insL, if_neg (by rw [this]; exact hh)]
    · split
      · rename_i h2
        have : e = (getE l b).1 := mem_one hd he mb (by rw [ib, h2])
        rw [insL, if_pos (by rw [this]; exact hg)]
      · rfl
  · rename_i hg
    simp only [upd, chg, List.map_map]
    apply List.map_congr_left
    intro e he
    simp only [Function.comp]
    congr 1
    simp only [lk1]
    split
    · rename_i h1
      have : e = (getE l a).1 := mem_one hd he ma (by rw [ia, h1])
      rw [insL, if_neg (by rw [this]; exact hh), if_neg (by rw [h1]; exact hab)]
    · split
      · rename_i h2
        have : e = (getE l b).1 := mem_one hd he mb (by rw [ib, h2])
        rw [insL, if_neg (by rw [this]; exact hg)]
      · rfl
end Go.Proofs.Ytiecekikcegnmaa

/- Plain: what is reached, by depth. -/
namespace Go.Proofs.Ytiecekikcegnmaa
open Go.Dl

def Suc (l : List Ent) (kind id y : Int) : Prop := ∃ x ∈ (getE l id).1.links, x.kind = kind ∧ x.to = y ∧ (getE l y).2 = true
inductive Rch (l : List Ent) (kind id : Int) : Int → Prop
  | one {y : Int} : Suc l kind id y → Rch l kind id y
  | more {y z : Int} : Rch l kind id y → Suc l kind y z → Rch l kind id z
theorem Rch.trans {l : List Ent} {kind a b c : Int} (h : Rch l kind a b) (k : Rch l kind b c) : Rch l kind a c := by
  induction k with
  | one h2 => exact .more h h2
  | more _ h2 ih => exact .more ih h2

structure Spec (l : List Ent) (kind : Int) (P : Int → Prop) (out o : List Int) : Prop where
  keep : ∀ y ∈ out, y ∈ o
  new : ∀ y ∈ o, y ∈ out ∨ P y
  shut : ∀ y ∈ o, y ∉ out → ∀ z, Suc l kind y z → z ∈ o
theorem Spec.refl (l : List Ent) (kind : Int) (P : Int → Prop) (out : List Int) : Spec l kind P out out := ⟨fun _ h => h, fun _ h => .inl h, fun _ h h2 => absurd h h2⟩
theorem Spec.trans {l : List Ent} {kind : Int} {P : Int → Prop} {a b c : List Int} (h : Spec l kind P a b) (k : Spec l kind P b c) : Spec l kind P a c :=
  ⟨fun y hy => k.keep y (h.keep y hy), fun y hy => (k.new y hy).elim (h.new y) .inr, fun y hy hn z hz => by
    by_cases hb : y ∈ b
    · exact k.keep z (h.shut y hb hn z hz)
    · exact k.shut y hy hb z hz⟩

theorem dfs_spec (l : List Ent) (kind : Int) : ∀ (n : Nat) (id : Int) (out : List Int), free l out < n → Spec l kind (Rch l kind id) out (dfs l kind n id out) ∧ ∀ y, Suc l kind id y → y ∈ dfs l kind n id out
  | 0, _, _, h => absurd h (Nat.not_lt_zero _)
  | n + 1, id, out, h => by
    have key : ∀ (xs : List Lnk) (acc : List Int), (∀ x ∈ xs, x ∈ (getE l id).1.links) → free l acc ≤ n → Spec l kind (Rch l kind id) acc (xs.foldl (stepL l kind (dfs l kind n)) acc) ∧ ∀ x ∈ xs, x.kind = kind → (getE l x.to).2 = true → x.to ∈ xs.foldl (stepL l kind (dfs l kind n)) acc := by
      intro xs
      induction xs with
      | nil => intro acc _ _; exact ⟨Spec.refl _ _ _ _, by simp⟩
      | cons x xs ih =>
        intro acc hx hf
        have hstep : Spec l kind (Rch l kind id) acc (stepL l kind (dfs l kind n) acc x) ∧ (x.kind = kind → (getE l x.to).2 = true → x.to ∈ stepL l kind (dfs l kind n) acc x) := by
          unfold stepL
          split
          · rename_i hc
            refine ⟨Spec.refl _ _ _ _, fun hk _ => ?_⟩
            simpa [hk] using hc
          · rename_i hc
            simp only [Bool.or_eq_true, not_or, Bool.not_eq_true] at hc
            split
            · rename_i hg
              have hfr := free_snoc hg hc.2
              obtain ⟨h1, h2⟩ := dfs_spec l kind n x.to (acc ++ [x.to]) (by omega)
              have hsuc : Suc l kind id x.to := ⟨x, hx x (by simp), by simpa using hc.1, rfl, hg⟩
              refine ⟨⟨fun y hy => h1.keep y (by simp [hy]), fun y hy => ?_, fun y hy hn z hz => ?_⟩, fun _ _ => h1.keep _ (by simp)⟩
              · rcases h1.new y hy with h3 | h3
                · rcases List.mem_append.1 h3 with h4 | h4
                  · exact .inl h4
                  · simp at h4; subst h4; exact .inr (.one hsuc)
                · exact .inr (Rch.trans (.one hsuc) h3)
              · by_cases he : y = x.to
                · subst he; exact h2 z hz
                · exact h1.shut y hy (by simp [hn, he]) z hz
            · rename_i hg
              exact ⟨Spec.refl _ _ _ _, fun _ h => absurd h hg⟩
        obtain ⟨i1, i2⟩ := ih (stepL l kind (dfs l kind n) acc x) (fun y hy => hx y (by simp [hy])) (Nat.le_trans (grow_step (grow_dfs l kind n) acc x).1 hf)
        refine ⟨hstep.1.trans i1, fun y hy hk hg => ?_⟩
        rcases List.mem_cons.1 hy with rfl | hy
        · exact i1.keep _ (hstep.2 hk hg)
        · exact i2 y hy hk hg
    obtain ⟨k1, k2⟩ := key (getE l id).1.links out (fun _ h => h) (by omega)
    refine ⟨k1, fun y ⟨x, hx, hk, ht, hg⟩ => ?_⟩
    have := k2 x hx hk (by rw [ht]; exact hg)
    rw [ht] at this; exact this
end Go.Proofs.Ytiecekikcegnmaa

/- Plain: the members of what is reached by depth. -/
namespace Go.Proofs.Ytiecekikcegnmaa
open Go.Dl

theorem mem_reachL (l : List Ent) (id kind y : Int) : y ∈ reachL l id kind ↔ Rch l kind id y := by
  have hf : free l [] < l.length + 1 := Nat.lt_succ_of_le List.countP_le_length
  obtain ⟨h1, h2⟩ := dfs_spec l kind (l.length + 1) id [] hf
  constructor
  · intro h; rcases h1.new y h with h3 | h3
    · simp at h3
    · exact h3
  · intro h
    induction h with
    | one h => exact h2 _ h
    | more _ h ih => exact h1.shut _ ih (by simp) _ h
end Go.Proofs.Ytiecekikcegnmaa

/- Plain: what is reached, by rounds. -/
namespace Go.Proofs.Ytiecekikcegnmaa
open Go.Dl

/-- One entry's links: all its next are met, and no others. -/
theorem in_spec (l : List Ent) (kind : Int) (id : Int) : ∀ (xs : List Lnk) (S : List Int), (∀ x ∈ xs, x ∈ (getE l id).1.links) →
    (∀ y ∈ xs.foldl (stepL l kind idR) S, y ∈ S ∨ Suc l kind id y) ∧ (∀ x ∈ xs, x.kind = kind → (getE l x.to).2 = true → x.to ∈ xs.foldl (stepL l kind idR) S)
  | [], S, _ => ⟨fun _ h => .inl h, by simp⟩
  | x :: xs, S, hx => by
    obtain ⟨i1, i2⟩ := in_spec l kind id xs (stepL l kind idR S x) (fun y hy => hx y (by simp [hy]))
    have hpre := (pre_fold l kind xs (stepL l kind idR S x)).subset
    have hstep : (∀ y ∈ stepL l kind idR S x, y ∈ S ∨ Suc l kind id y) ∧ (x.kind = kind → (getE l x.to).2 = true → x.to ∈ stepL l kind idR S x) := by
      unfold stepL idR
      split
      · rename_i hc
        exact ⟨fun _ h => .inl h, fun hk _ => by simpa [hk] using hc⟩
      · rename_i hc
        simp only [Bool.or_eq_true, not_or, Bool.not_eq_true] at hc
        split
        · rename_i hg
          refine ⟨fun y hy => ?_, fun _ _ => by simp⟩
          rcases List.mem_append.1 hy with h | h
          · exact .inl h
          · simp at h; subst h; exact .inr ⟨x, hx x (by simp), by simpa using hc.1, rfl, hg⟩
        · rename_i hg
          exact ⟨fun _ h => .inl h, fun _ h => absurd h hg⟩
    refine ⟨fun y hy => (i1 y hy).elim (hstep.1 y) .inr, fun y hy hk hg => ?_⟩
    rcases List.mem_cons.1 hy with rfl | hy
    · exact hpre (hstep.2 hk hg)
    · exact i2 y hy hk hg
end Go.Proofs.Ytiecekikcegnmaa

/- Plain: a round. -/
namespace Go.Proofs.Ytiecekikcegnmaa
open Go.Dl

theorem ins_spec (l : List Ent) (kind : Int) : ∀ (ids S : List Int),
    (∀ y ∈ ids.foldl (bfsIn l kind) S, y ∈ S ∨ ∃ i ∈ ids, Suc l kind i y) ∧ (∀ i ∈ ids, ∀ y, Suc l kind i y → y ∈ ids.foldl (bfsIn l kind) S)
  | [], S => ⟨fun _ h => .inl h, by simp⟩
  | i :: ids, S => by
    obtain ⟨h1, h2⟩ := in_spec l kind i (getE l i).1.links S (fun _ h => h)
    obtain ⟨i1, i2⟩ := ins_spec l kind ids (bfsIn l kind S i)
    have hpre := (pre_ins l kind ids (bfsIn l kind S i)).subset
    refine ⟨fun y hy => ?_, fun j hj y hs => ?_⟩
    · rcases i1 y hy with h | ⟨j, hj, h⟩
      · exact (h1 y h).elim .inl fun h => .inr ⟨i, by simp, h⟩
      · exact .inr ⟨j, by simp [hj], h⟩
    · rcases List.mem_cons.1 hj with rfl | hj
      · obtain ⟨x, hx, hk, ht, hg⟩ := hs
        subst ht
        exact hpre (h2 x hx hk hg)
      · exact i2 j hj y hs
end Go.Proofs.Ytiecekikcegnmaa

/- Plain: all rounds; what is reached, either way. -/
namespace Go.Proofs.Ytiecekikcegnmaa
open Go.Dl

structure Bfs (l : List Ent) (kind id : Int) (n : Nat) (S T : List Int) : Prop where
  rch : ∀ y ∈ S, Rch l kind id y
  last : ∀ y ∈ T, y = id ∨ Rch l kind id y
  shut : ∀ y, (y ∈ S ∨ y = id) → y ∉ T → ∀ z, Suc l kind y z → z ∈ S
  long : T ≠ [] → n ≤ S.length

theorem bfs_spec (l : List Ent) (kind id : Int) : ∀ n, Bfs l kind id n (bfsN l id kind n).1 (bfsN l id kind n).2
  | 0 => ⟨by simp [bfsN], by simp [bfsN], by simp [bfsN], by simp [bfsN]⟩
  | n + 1 => by
    obtain ⟨h1, h2, h3, h4⟩ := bfs_spec l kind id n
    simp only [bfsN]
    obtain ⟨S, hS⟩ : ∃ S, S = (bfsN l id kind n).1 := ⟨_, rfl⟩
    obtain ⟨T, hT⟩ : ∃ T, T = (bfsN l id kind n).2 := ⟨_, rfl⟩
    rw [← hS] at h1 h3 h4 ⊢
    rw [← hT] at h2 h3 h4 ⊢
    obtain ⟨i1, i2⟩ := ins_spec l kind T S
    obtain ⟨R, hR⟩ := pre_ins l kind T S
    rw [← hR] at i1 i2 ⊢
    simp only [List.drop_left]
    have hr : ∀ y ∈ S ++ R, Rch l kind id y := fun y hy => by
      rcases i1 y hy with h | ⟨i, hi, hs⟩
      · exact h1 y h
      · rcases h2 i hi with rfl | h
        · exact .one hs
        · exact .more h hs
    refine ⟨hr, fun y hy => .inr (hr y (by simp [hy])), fun y hy hn z hz => ?_, fun hne => ?_⟩
    · by_cases ht : y ∈ T
      · exact i2 y ht z hz
      · refine List.mem_append.2 (.inl (h3 y ?_ ht z hz))
        rcases hy with hy | hy
        · exact (List.mem_append.1 hy).elim .inl fun h => absurd h hn
        · exact .inr hy
    · have hR0 : R.length ≠ 0 := by simpa using hne
      have hTn : T ≠ [] := fun h => by
        subst h
        simp at hR
        exact hne hR
      have := h4 hTn
      simp; omega
end Go.Proofs.Ytiecekikcegnmaa

/- Plain: what is reached, either way, is the same. -/
namespace Go.Proofs.Ytiecekikcegnmaa
open Go.Dl

theorem cptF_spec : ∀ (l : List Int) (p : Int), l.Pairwise (· ≤ ·) → (∀ x ∈ l, p ≤ x) →
    (cptF (some p) l).Pairwise (· < ·) ∧ (∀ x ∈ cptF (some p) l, p < x) ∧ ∀ x, x ∈ cptF (some p) l ↔ x ∈ l ∧ x ≠ p
  | [], p, _, _ => by simp [cptF]
  | x :: l, p, hs, hp => by
    obtain ⟨h1, h2⟩ := List.pairwise_cons.1 hs
    have hpx := hp x (by simp)
    obtain ⟨i1, i2, i3⟩ := cptF_spec l x h2 h1
    simp only [cptF]
    split
    · rename_i he
      injection he with he; subst he
      refine ⟨i1, i2, fun y => ?_⟩
      rw [i3]
      constructor
      · exact fun h => ⟨List.mem_cons_of_mem _ h.1, h.2⟩
      · rintro ⟨h, hn⟩
        rcases List.mem_cons.1 h with h | h
        · exact absurd h hn
        · exact ⟨h, hn⟩
    · rename_i he
      have hlt : p < x := by
        have : p ≠ x := fun e => he (by rw [e])
        omega
      refine ⟨List.pairwise_cons.2 ⟨i2, i1⟩, fun y hy => ?_, fun y => ?_⟩
      · rcases List.mem_cons.1 hy with rfl | hy
        · exact hlt
        · have := i2 y hy; omega
      · simp only [List.mem_cons, i3]
        constructor
        · rintro (rfl | ⟨h, _⟩)
          · exact ⟨.inl rfl, by omega⟩
          · have := h1 y h; exact ⟨.inr h, by omega⟩
        · rintro ⟨rfl | h, _⟩
          · exact .inl rfl
          · by_cases e : y = x
            · exact .inl e
            · exact .inr ⟨h, e⟩

theorem cpt_spec (l : List Int) (hs : l.Pairwise (· ≤ ·)) : (cpt l).Pairwise (· < ·) ∧ ∀ x, x ∈ cpt l ↔ x ∈ l := by
  cases l with
  | nil => simp [cpt, cptF]
  | cons x l =>
    obtain ⟨h1, h2⟩ := List.pairwise_cons.1 hs
    obtain ⟨i1, i2, i3⟩ := cptF_spec l x h2 h1
    have he : cpt (x :: l) = x :: cptF (some x) l := by simp [cpt, cptF]
    rw [he]
    refine ⟨List.pairwise_cons.2 ⟨i2, i1⟩, fun y => ?_⟩
    simp only [List.mem_cons, i3]
    constructor
    · rintro (h | h)
      · exact .inl h
      · exact .inr h.1
    · rintro (h | h)
      · exact .inl h
      · by_cases e : y = x
        · exact .inl e
        · exact .inr ⟨h, e⟩

theorem srt_pairwise (l : List Int) : (srt l).Pairwise (· ≤ ·) := by
  have := List.pairwise_mergeSort (le := fun x y : Int => decide (x ≤ y)) (fun a b c h1 h2 => by simp at *; omega) (fun a b => by simp; omega) l
  exact this.imp (by intro a b h; simpa using h)

theorem usort_spec (l : List Int) : (usort l).Pairwise (· < ·) ∧ ∀ x, x ∈ usort l ↔ x ∈ l := by
  obtain ⟨h1, h2⟩ := cpt_spec (srt l) (srt_pairwise l)
  exact ⟨h1, fun x => (h2 x).trans (List.mem_mergeSort)⟩


theorem lt_ext : ∀ {xs ys : List Int}, xs.Pairwise (· < ·) → ys.Pairwise (· < ·) → (∀ x, x ∈ xs ↔ x ∈ ys) → xs = ys
  | [], [], _, _, _ => rfl
  | [], y :: ys, _, _, h => by have := (h y).2 (by simp); simp at this
  | x :: xs, [], _, _, h => by have := (h x).1 (by simp); simp at this
  | x :: xs, y :: ys, hx, hy, h => by
    obtain ⟨a1, a2⟩ := List.pairwise_cons.1 hx
    obtain ⟨b1, b2⟩ := List.pairwise_cons.1 hy
    have e : x = y := by
      rcases List.mem_cons.1 ((h x).1 (by simp)) with e | e
      · exact e
      · rcases List.mem_cons.1 ((h y).2 (by simp)) with f | f
        · exact f.symm
        · have := a1 y f; have := b1 x e; omega
    subst e
    rw [lt_ext a2 b2 fun z => ?_]
    constructor
    · intro hz
      rcases List.mem_cons.1 ((h z).1 (by simp [hz])) with e | e
      · have := a1 z hz; omega
      · exact e
    · intro hz
      rcases List.mem_cons.1 ((h z).2 (by simp [hz])) with e | e
      · have := b1 z hz; omega
      · exact e

theorem mem_bfs (l : List Ent) (id kind y : Int) : y ∈ (bfsN l id kind (l.length + 1)).1 ↔ Rch l kind id y := by
  obtain ⟨h1, h2, h3, h4⟩ := bfs_spec l kind id (l.length + 1)
  have hT : (bfsN l id kind (l.length + 1)).2 = [] := by
    by_cases h : (bfsN l id kind (l.length + 1)).2 = []
    · exact h
    · have := h4 h
      have := grow_len (grow_bfs l id kind (l.length + 1))
      omega
  rw [hT] at h3
  constructor
  · exact h1 y
  · intro h
    induction h with
    | one h => exact h3 id (.inr rfl) (by simp) _ h
    | more _ h ih => exact h3 _ (.inl ih) (by simp) _ h

theorem rch_there {l : List Ent} {kind id y : Int} (h : Rch l kind id y) : (getE l y).2 = true := by
  cases h with
  | one h => obtain ⟨_, _, _, _, h⟩ := h; exact h
  | more _ h => obtain ⟨_, _, _, _, h⟩ := h; exact h

theorem mem_reachR (l : List Ent) (id kind y : Int) : y ∈ reachR l id kind ↔ Rch l kind id y := by
  simp only [reachR, List.mem_map, List.mem_filter, metIn, any_l, decide_eq_true_eq, mem_bfs]
  constructor
  · rintro ⟨e, ⟨_, h⟩, rfl⟩; exact h
  · intro h
    obtain ⟨e, he, hi⟩ := getE_some (rch_there h)
    exact ⟨e, ⟨he, by rw [hi]; exact h⟩, hi⟩

theorem mem_reachK (l : List Ent) (id kind y : Int) : y ∈ reachK l id kind ↔ Rch l kind id y := by
  rw [reachK, (usort_spec _).2, mem_reachL]

theorem reach_eq {l : List Ent} (h : Few l) (id kind : Int) : reachK l id kind = reachR l id kind := by
  refine lt_ext (usort_spec _).1 ?_ fun x => by rw [mem_reachK, mem_reachR]
  rw [reachR]
  have h1 := few_sorted h
  rw [List.pairwise_map] at h1 ⊢
  exact h1.sublist List.filter_sublist

theorem mem_alike (l : List Ent) (id kind y : Int) : decide (y ∈ reachK l id kind) = decide (y ∈ reachR l id kind) := by
  rw [decide_eq_decide, mem_reachK, mem_reachR]

/-- Whatever the entries, both tell the same of membership. -/
theorem chk_eq (l : List Ent) : chkF l (reachK l) = chkF l (reachR l) := by
  have : ring (reachK l) = ring (reachR l) := by
    funext e; rw [ring, ring, mem_alike, mem_alike]
  rw [chkF, chkF, this]

theorem link_eq' {l : List Ent} (hd : Distinct l) (a k b : Int) : linkK l a k b = linkR l a k b :=
  link_eq l hd a k b (by rw [any_l, any_r, mem_alike])
end Go.Proofs.Ytiecekikcegnmaa

/- Plain: right lists, said by their links; what Link, Unlink and Clear keep. -/
namespace Go.Proofs.Ytiecekikcegnmaa
open Go.Dl

def Lk (l : List Ent) (a k b : Int) : Prop := ∃ e ∈ l, e.id = a ∧ (⟨k, b⟩ : Lnk) ∈ e.links

theorem getE_of {l : List Ent} (hd : Distinct l) {e : Ent} (he : e ∈ l) : getE l e.id = (e, true) := by
  have h : (getE l e.id).2 = true := by
    unfold getE
    cases hf : l.find? (fun f => f.id == e.id) with
    | none => have := List.find?_eq_none.1 hf e he; simp at this
    | some f => rfl
  obtain ⟨m, i⟩ := getE_id h
  exact Prod.ext (mem_one hd m he i) h
theorem getE_lk {l : List Ent} (hd : Distinct l) {a k b : Int} : (⟨k, b⟩ : Lnk) ∈ (getE l a).1.links ↔ Lk l a k b := by
  constructor
  · intro h
    cases hg : (getE l a).2
    · unfold getE at h hg
      cases hf : l.find? (fun f => f.id == a) with
      | none => rw [hf] at h; simp [noEnt] at h
      | some f => rw [hf] at hg; cases hg
    · obtain ⟨m, i⟩ := getE_id hg
      exact ⟨_, m, i, h⟩
  · rintro ⟨e, he, rfl, h⟩
    rw [getE_of hd he]; exact h
theorem getE_true {l : List Ent} (hd : Distinct l) {a : Int} : (getE l a).2 = true ↔ ∃ e ∈ l, e.id = a := by
  constructor
  · intro h; obtain ⟨m, i⟩ := getE_id h; exact ⟨_, m, i⟩
  · rintro ⟨e, he, rfl⟩; rw [getE_of hd he]
theorem hasL_iff {e : Ent} {x : Lnk} : hasL e x = true ↔ x ∈ e.links := by
  simp only [hasL, List.any_eq_true, decide_eq_true_eq]
  constructor
  · rintro ⟨y, hy, rfl⟩; exact hy
  · intro h; exact ⟨x, h, rfl⟩
theorem suc_iff {l : List Ent} (hd : Distinct l) {k a b : Int} : Suc l k a b ↔ Lk l a k b ∧ ∃ e ∈ l, e.id = b := by
  constructor
  · rintro ⟨x, hx, rfl, rfl, h⟩
    exact ⟨(getE_lk hd).1 hx, (getE_true hd).1 h⟩
  · rintro ⟨h1, h2⟩
    exact ⟨⟨k, b⟩, (getE_lk hd).2 h1, rfl, rfl, (getE_true hd).2 h2⟩

structure Good (l : List Ent) : Prop where
  inv0 : ∀ a k b, Lk l a k b → 0 ≤ inv k
  back : ∀ a k b, Lk l a k b → Lk l b (inv k) a
  r2 : ∀ a, ¬ Rch l 2 a a
  r4 : ∀ a, ¬ Rch l 4 a a

theorem inv_inv {k : Int} (h : 0 ≤ inv k) : inv (inv k) = k ∧ 0 ≤ k ∧ k ≤ 5 := by
  unfold inv at *; (repeat' split) <;> (repeat' split at h) <;> omega

theorem rch_lk {l : List Ent} (hd : Distinct l) {k a b : Int} (h : Rch l k a b) : ∃ c, Lk l a k c := by
  induction h with
  | one h => exact ⟨_, ((suc_iff hd).1 h).1⟩
  | more _ _ ih => exact ih

theorem err_none {l : List Ent} (hd : Distinct l) {e : Ent} {x : Lnk} : errL l e x = none ↔ 0 ≤ inv x.kind ∧ Lk l x.to (inv x.kind) e.id := by
  unfold errL
  split
  · rename_i h; simp; omega
  · rename_i h
    split
    · rename_i h2
      simp only [reduceCtorEq, false_iff]
      rintro ⟨_, e', he, hi, _⟩
      rw [← hi, getE_of hd he] at h2; cases h2
    · split
      · rename_i h3
        simp only [reduceCtorEq, false_iff]
        rintro ⟨_, h4⟩
        have := hasL_iff.2 ((getE_lk hd).2 h4)
        rw [this] at h3; cases h3
      · rename_i h3
        simp only [true_iff]
        refine ⟨by omega, (getE_lk hd).1 (hasL_iff.1 (by simpa using h3))⟩

theorem fs_none_iff {α β : Type} {g : α → Option β} {l : List α} : l.findSome? g = none ↔ ∀ x ∈ l, g x = none := by
  simp [List.findSome?_eq_none_iff]

theorem fs_err {l : List Ent} {c : Int} (h : l.findSome? (errE l) = some c) : c ≠ 0 := by
  obtain ⟨e, _, h1⟩ := List.exists_of_findSome?_eq_some h
  obtain ⟨x, _, h2⟩ := List.exists_of_findSome?_eq_some h1
  unfold errL at h2
  (repeat' split at h2) <;> simp at h2 <;> omega

theorem check_good {l : List Ent} (hd : Distinct l) : chkF l (reachK l) = 0 ↔ Good l := by
  unfold chkF
  constructor
  · intro h
    cases hs : l.findSome? (errE l) with
    | some c => rw [hs] at h; exact absurd h (fs_err hs)
    | none =>
      rw [hs] at h
      simp only at h
      split at h
      · cases h
      rename_i hr
      have h1 : ∀ a k b, Lk l a k b → 0 ≤ inv k ∧ Lk l b (inv k) a := by
        rintro a k b ⟨e, he, rfl, hx⟩
        have := fs_none_iff.1 (fs_none_iff.1 hs e he) ⟨k, b⟩ hx
        exact (err_none hd).1 this
      have h2 : ∀ e ∈ l, ring (reachK l) e = false := by simpa using hr
      have h3 : ∀ k a, (k = 2 ∨ k = 4) → ¬ Rch l k a a := by
        intro k a hk hra
        obtain ⟨c, e, he, rfl, hc⟩ := rch_lk hd hra
        have := h2 e he
        simp only [ring, Bool.or_eq_false_iff, decide_eq_false_iff_not, mem_reachK] at this
        rcases hk with rfl | rfl
        · exact this.1 hra
        · exact this.2 hra
      exact ⟨fun a k b h => (h1 a k b h).1, fun a k b h => (h1 a k b h).2, fun a => h3 2 a (.inl rfl), fun a => h3 4 a (.inr rfl)⟩
  · intro h
    have hs : l.findSome? (errE l) = none := fs_none_iff.2 fun e he => fs_none_iff.2 fun x hx => (err_none hd).2 ⟨h.inv0 _ _ _ ⟨e, he, rfl, hx⟩, h.back _ _ _ ⟨e, he, rfl, hx⟩⟩
    rw [hs]
    simp only
    rw [if_neg]
    simp only [List.any_eq_true, not_exists, not_and, ring, Bool.or_eq_true, decide_eq_true_eq, mem_reachK]
    intro e he hh
    rcases hh with hh | hh
    · exact h.r2 _ hh
    · exact h.r4 _ hh

theorem Good.suc {l : List Ent} (h : Good l) (hd : Distinct l) {k a b : Int} (hs : Suc l k a b) : Suc l (inv k) b a := by
  obtain ⟨h1, h2⟩ := (suc_iff hd).1 hs
  obtain ⟨e, he, hi, _⟩ := id h1
  exact (suc_iff hd).2 ⟨h.back _ _ _ h1, e, he, hi⟩
theorem Good.rch {l : List Ent} (h : Good l) (hd : Distinct l) {k a b : Int} (hr : Rch l k a b) : Rch l (inv k) b a := by
  induction hr with
  | one h1 => exact .one (h.suc hd h1)
  | more _ h2 ih => exact Rch.trans (.one (h.suc hd h2)) ih
theorem Good.ring {l : List Ent} (h : Good l) (hd : Distinct l) {k a : Int} (hk : 2 ≤ k) : ¬ Rch l k a a := by
  intro hr
  obtain ⟨c, hc⟩ := rch_lk hd hr
  have h0 := h.inv0 _ _ _ hc
  obtain ⟨_, _, h5⟩ := inv_inv h0
  have hr2 := h.rch hd hr
  have : k = 2 ∨ k = 3 ∨ k = 4 ∨ k = 5 := by omega
  rcases this with rfl | rfl | rfl | rfl
  · exact h.r2 _ hr
  · exact h.r2 _ hr2
  · exact h.r4 _ hr
  · exact h.r4 _ hr2

/-! ### Changed lists -/

theorem chg_ids (f : Ent → List Lnk) (l : List Ent) : (chg f l).map (·.id) = l.map (·.id) := by simp [chg]
theorem chg_distinct {l : List Ent} (hd : Distinct l) (f : Ent → List Lnk) : Distinct (chg f l) := by unfold Distinct; rw [chg_ids]; exact hd
theorem chg_lk {l : List Ent} {f : Ent → List Lnk} {a k b : Int} : Lk (chg f l) a k b ↔ ∃ e ∈ l, e.id = a ∧ (⟨k, b⟩ : Lnk) ∈ f e := by
  simp only [Lk, chg, List.mem_map]
  constructor
  · rintro ⟨_, ⟨e, he, rfl⟩, h1, h2⟩; exact ⟨e, he, h1, h2⟩
  · rintro ⟨e, he, h1, h2⟩; exact ⟨_, ⟨e, he, rfl⟩, h1, h2⟩
theorem chg_id {l : List Ent} {f : Ent → List Lnk} {a : Int} : (∃ e ∈ chg f l, e.id = a) ↔ ∃ e ∈ l, e.id = a := by
  simp only [chg, List.mem_map]
  constructor
  · rintro ⟨_, ⟨e, he, rfl⟩, h⟩; exact ⟨e, he, h⟩
  · rintro ⟨e, he, h⟩; exact ⟨_, ⟨e, he, rfl⟩, h⟩
theorem chg_len (f : Ent → List Lnk) (l : List Ent) : (chg f l).length = l.length := by simp [chg]

theorem good_sub {l m : List Ent} (hl : Distinct l) (hm : Distinct m) (h : Good l) (hid : ∀ a, (∃ e ∈ m, e.id = a) → ∃ e ∈ l, e.id = a) (hs : ∀ a k b, Lk m a k b → Lk l a k b) (hb : ∀ a k b, Lk m a k b → Lk m b (inv k) a) : Good m := by
  have hr : ∀ k a b, Rch m k a b → Rch l k a b := by
    intro k a b hr
    have hsu : ∀ a b, Suc m k a b → Suc l k a b := fun a b hs' => by
      obtain ⟨h1, h2⟩ := (suc_iff hm).1 hs'
      exact (suc_iff hl).2 ⟨hs _ _ _ h1, hid _ h2⟩
    induction hr with
    | one h1 => exact .one (hsu _ _ h1)
    | more _ h2 ih => exact .more ih (hsu _ _ h2)
  exact ⟨fun a k b hk => h.inv0 _ _ _ (hs _ _ _ hk), hb, fun a ha => h.r2 a (hr _ _ _ ha), fun a ha => h.r4 a (hr _ _ _ ha)⟩

theorem clear_lk {l : List Ent} {c a k b : Int} : Lk (clearK l c) a k b ↔ Lk l a k b ∧ a ≠ c ∧ b ≠ c := by
  rw [clearK, chg_lk]
  simp only [List.mem_filter, clP, Bool.not_eq_true', Bool.or_eq_false_iff, beq_eq_false_iff_ne]
  constructor
  · rintro ⟨e, he, rfl, h1, h2, h3⟩; exact ⟨⟨e, he, rfl, h1⟩, h2, h3⟩
  · rintro ⟨⟨e, he, rfl, h1⟩, h2, h3⟩; exact ⟨e, he, rfl, h1, h2, h3⟩
theorem clear_good {l : List Ent} (hd : Distinct l) (h : Good l) (c : Int) : Good (clearK l c) := by
  refine good_sub hd (chg_distinct hd _) h (fun a => chg_id.1) (fun a k b hk => (clear_lk.1 hk).1) fun a k b hk => ?_
  obtain ⟨h1, h2, h3⟩ := clear_lk.1 hk
  exact clear_lk.2 ⟨h.back _ _ _ h1, h3, h2⟩

theorem unlink_lk {l : List Ent} {p q r : Int} (h0 : 0 ≤ inv q) {a k b : Int} : Lk (chg (fun e => e.links.filter fun x => !unP e.id p q r (inv q) x) l) a k b ↔ Lk l a k b ∧ ¬ (a = p ∧ k = q ∧ b = r) ∧ ¬ (a = r ∧ k = inv q ∧ b = p) := by
  rw [chg_lk]
  have key : ∀ id : Int, (!unP id p q r (inv q) ⟨k, b⟩) = true ↔ ¬ (id = p ∧ k = q ∧ b = r) ∧ ¬ (id = r ∧ k = inv q ∧ b = p) := by
    intro id
    rw [unP_eq _ _ _ _ _ _ h0]
    simp [Lnk.mk.injEq, ← Decidable.not_and_iff_not_or_not, ← Classical.not_imp, not_and]
    rw [← Decidable.imp_iff_not_or, ← Decidable.imp_iff_not_or]
  simp only [List.mem_filter, key]
  constructor
  · rintro ⟨e, he, rfl, h1, h2⟩; exact ⟨⟨e, he, rfl, h1⟩, h2⟩
  · rintro ⟨⟨e, he, rfl, h1⟩, h2⟩; exact ⟨e, he, rfl, h1, h2⟩
theorem unlink_good {l : List Ent} (hd : Distinct l) (h : Good l) {p q r : Int} (hu : (unlinkK l p q r).2 = 0) : Good (unlinkK l p q r).1 := by
  unfold unlinkK at *
  split at hu
  · cases hu
  rename_i hc
  rw [if_neg hc]
  simp only [not_or, Bool.not_eq_false] at hc
  have hlk : Lk l p q r := (getE_lk hd).1 (hasL_iff.1 hc.2.2)
  have h0 := h.inv0 _ _ _ hlk
  refine good_sub hd (chg_distinct hd _) h (fun a => chg_id.1) (fun a k b hk => ((unlink_lk h0).1 hk).1) fun a k b hk => ?_
  obtain ⟨h1, h2, h3⟩ := (unlink_lk h0).1 hk
  have hk0 := (inv_inv (h.inv0 _ _ _ h1)).1
  have hq0 := (inv_inv h0).1
  refine (unlink_lk h0).2 ⟨h.back _ _ _ h1, ?_, ?_⟩
  · rintro ⟨e1, e2, e3⟩
    exact h3 ⟨e3, by rw [← hk0, e2], e1⟩
  · rintro ⟨e1, e2, e3⟩
    exact h2 ⟨e3, by rw [← hk0, e2, hq0], e1⟩

theorem mem_withL {L : List Lnk} {x y : Lnk} : y ∈ withL L x ↔ y = x ∨ y ∈ L := by
  have h := List.take_append_drop (lowI L x) L
  simp only [withL, putAt, List.mem_append, List.mem_cons]
  constructor
  · rintro (h1 | h1 | h1)
    · exact .inr (List.mem_of_mem_take h1)
    · exact .inl h1
    · exact .inr (List.mem_of_mem_drop h1)
  · rintro (h1 | h1)
    · exact .inr (.inl h1)
    · rw [← h] at h1
      rcases List.mem_append.1 h1 with h2 | h2
      · exact .inl h2
      · exact .inr (.inr h2)
theorem any_mem {L : List Lnk} {x : Lnk} : (L.any fun y => decide (x = y)) = true ↔ x ∈ L := by
  simp only [List.any_eq_true, decide_eq_true_eq]
  constructor
  · rintro ⟨y, hy, rfl⟩; exact hy
  · intro h; exact ⟨x, h, rfl⟩
theorem mem_insL {L : List Lnk} {x y : Lnk} : y ∈ insL L x ↔ y = x ∨ y ∈ L := by
  unfold insL
  split
  · rename_i h
    rw [any_mem] at h
    constructor
    · exact .inr
    · rintro (rfl | h1)
      · exact h
      · exact h1
  · exact mem_withL
theorem insL_len (L : List Lnk) (x : Lnk) : (insL L x).length ≤ L.length + 1 := by
  unfold insL
  split
  · omega
  · simp [withL, putAt]; omega

theorem link_lk {l : List Ent} {p q r : Int} (hpr : p ≠ r) (h1 : ∃ e ∈ l, e.id = p) (h2 : ∃ e ∈ l, e.id = r) {a k b : Int} : Lk (chg (lk1 p q r (inv q)) l) a k b ↔ Lk l a k b ∨ (a = p ∧ k = q ∧ b = r) ∨ (a = r ∧ k = inv q ∧ b = p) := by
  rw [chg_lk]
  have key : ∀ e : Ent, (⟨k, b⟩ : Lnk) ∈ lk1 p q r (inv q) e ↔ (⟨k, b⟩ : Lnk) ∈ e.links ∨ (e.id = p ∧ k = q ∧ b = r) ∨ (e.id = r ∧ k = inv q ∧ b = p) := by
    intro e
    unfold lk1
    split
    · rename_i h; rw [mem_insL]; simp only [h, Lnk.mk.injEq, true_and, hpr, false_and, or_false]; exact Or.comm
    · rename_i h
      split
      · rename_i h3; rw [mem_insL]; simp only [h3, Lnk.mk.injEq, true_and, Ne.symm hpr, false_and, false_or]; exact Or.comm
      · rename_i h3; simp [h, h3]
  simp only [key]
  constructor
  · rintro ⟨e, he, rfl, h | h | h⟩
    · exact .inl ⟨e, he, rfl, h⟩
    · exact .inr (.inl h)
    · exact .inr (.inr h)
  · rintro (⟨e, he, rfl, h⟩ | ⟨rfl, h⟩ | ⟨rfl, h⟩)
    · exact ⟨e, he, rfl, .inl h⟩
    · obtain ⟨e, he, hi⟩ := h1; exact ⟨e, he, hi, .inr (.inl ⟨hi, h⟩)⟩
    · obtain ⟨e, he, hi⟩ := h2; exact ⟨e, he, hi, .inr (.inr ⟨hi, h⟩)⟩

/-- A path with one more edge: as before, or over that edge. -/
theorem rch_more {l m : List Ent} {k p q : Int} (hs : ∀ a b, Suc m k a b → Suc l k a b ∨ (a = p ∧ b = q)) {a b : Int} (h : Rch m k a b) : Rch l k a b ∨ ((a = p ∨ Rch l k a p) ∧ (q = b ∨ Rch l k q b)) := by
  induction h with
  | one h =>
    rcases hs _ _ h with h | ⟨h1, h2⟩
    · exact .inl (.one h)
    · exact .inr ⟨.inl h1, .inl h2.symm⟩
  | more _ h ih =>
    rcases hs _ _ h with h | ⟨h1, h2⟩
    · rcases ih with ih | ⟨i1, i2⟩
      · exact .inl (.more ih h)
      · refine .inr ⟨i1, ?_⟩
        rcases i2 with i2 | i2
        · subst i2; exact .inr (.one h)
        · exact .inr (.more i2 h)
    · subst h1
      rcases ih with ih | ⟨i1, _⟩
      · exact .inr ⟨.inr ih, .inl h2.symm⟩
      · exact .inr ⟨i1, .inl h2.symm⟩
theorem ring_more {l m : List Ent} {k p q : Int} (hs : ∀ a b, Suc m k a b → Suc l k a b ∨ (a = p ∧ b = q)) (hr : ∀ a, ¬ Rch l k a a) (hpq : p ≠ q) (hn : ¬ Rch l k q p) (a : Int) : ¬ Rch m k a a := by
  intro h
  rcases rch_more hs h with h | ⟨h1, h2⟩
  · exact hr a h
  · rcases h1 with rfl | h1
    · rcases h2 with h2 | h2
      · exact hpq h2.symm
      · exact hn h2
    · rcases h2 with rfl | h2
      · exact hn h1
      · exact hn (h2.trans h1)

structure LinkOk (l : List Ent) (a k b : Int) : Prop where
  ia : ∃ e ∈ l, e.id = a
  ib : ∃ e ∈ l, e.id = b
  inv0 : 0 ≤ inv k
  ne : a ≠ b
  new : ¬ Lk l a k b
  room : (getE l a).1.links.length < 12 ∧ (getE l b).1.links.length < 12
  ring : inv k ≠ k → ¬ Rch l k b a
theorem link_ok {l : List Ent} (hd : Distinct l) {a k b : Int} (h : (linkK l a k b).2 = 0) : LinkOk l a k b ∧ (linkK l a k b).1 = chg (lk1 a k b (inv k)) l := by
  unfold linkK at *
  split at h; · cases h
  rename_i h1
  split at h; · cases h
  rename_i h2
  split at h; · cases h
  rename_i h3
  split at h; · cases h
  rename_i h4
  split at h; · cases h
  rename_i h5
  split at h; · cases h
  rename_i h6
  rw [if_neg h1, if_neg h2, if_neg h3, if_neg h4, if_neg h5, if_neg h6]
  simp only [not_or, Bool.not_eq_false] at h1
  refine ⟨⟨(getE_true hd).1 h1.1, (getE_true hd).1 h1.2, by omega, h3, fun h => h4 (hasL_iff.2 ((getE_lk hd).2 h)), ⟨by omega, by omega⟩, fun hk hr => h6 ⟨hk, ?_⟩⟩, rfl⟩
  rw [any_l, decide_eq_true_eq, mem_reachK]; exact hr
theorem link_of {l : List Ent} (hd : Distinct l) {a k b : Int} (ha : ∃ e ∈ l, e.id = a) (hb : ∃ e ∈ l, e.id = b) (h0 : 0 ≤ inv k) (hne : a ≠ b) (hn : ¬ Lk l a k b) (hr : inv k ≠ k → ¬ Rch l k b a) : (linkK l a k b).2 = 11 ∨ linkK l a k b = (chg (lk1 a k b (inv k)) l, 0) := by
  unfold linkK
  rw [if_neg (by rw [(getE_true hd).2 ha, (getE_true hd).2 hb]; simp), if_neg (by omega), if_neg hne, if_neg (fun h => hn ((getE_lk hd).1 (hasL_iff.1 h)))]
  split
  · exact .inl rfl
  · rw [if_neg]
    · exact .inr rfl
    · rintro ⟨h1, h2⟩
      rw [any_l, decide_eq_true_eq, mem_reachK] at h2
      exact hr h1 h2

theorem link_good {l : List Ent} (hd : Distinct l) (h : Good l) {p q r : Int} (hu : (linkK l p q r).2 = 0) : Good (linkK l p q r).1 := by
  obtain ⟨ok, he⟩ := link_ok hd hu
  rw [he]
  have hlk : ∀ a k b, Lk (chg (lk1 p q r (inv q)) l) a k b ↔ _ := fun a k b => link_lk ok.ne ok.ia ok.ib
  have hm := chg_distinct hd (lk1 p q r (inv q))
  have hii := (inv_inv ok.inv0).1
  have hrange := inv_inv ok.inv0
  have hring : ∀ k, 2 ≤ k → inv k ≠ k → (∀ a, ¬ Rch l k a a) → ∀ a, ¬ Rch (chg (lk1 p q r (inv q)) l) k a a := by
    intro k hk hik hr
    have hsuc : ∀ a b, Suc (chg (lk1 p q r (inv q)) l) k a b → Suc l k a b ∨ (k = q ∧ a = p ∧ b = r) ∨ (k = inv q ∧ a = r ∧ b = p) := by
      intro a b hs
      obtain ⟨h1, h2⟩ := (suc_iff hm).1 hs
      rcases (hlk _ _ _).1 h1 with h3 | ⟨e1, e2, e3⟩ | ⟨e1, e2, e3⟩
      · exact .inl ((suc_iff hd).2 ⟨h3, chg_id.1 h2⟩)
      · exact .inr (.inl ⟨e2, e1, e3⟩)
      · exact .inr (.inr ⟨e2, e1, e3⟩)
    by_cases hq : k = q
    · refine ring_more (p := p) (q := r) (fun a b hs => ?_) hr ok.ne (by rw [hq]; exact ok.ring (by rw [← hq]; exact hik))
      rcases hsuc a b hs with h1 | h1 | h1
      · exact .inl h1
      · exact .inr h1.2
      · exact absurd (h1.1.symm.trans hq) (by rw [← hq]; exact hik)
    · by_cases hq2 : k = inv q
      · refine ring_more (p := r) (q := p) (fun a b hs => ?_) hr (Ne.symm ok.ne) (fun hrr => ?_)
        · rcases hsuc a b hs with h1 | h1 | h1
          · exact .inl h1
          · exact absurd h1.1 hq
          · exact .inr h1.2
        · have := h.rch hd hrr
          rw [hq2, hii] at this
          exact ok.ring (by rw [← hq2]; exact hq) this
      · intro a ha
        refine hr a ?_
        have : ∀ b c, Rch (chg (lk1 p q r (inv q)) l) k b c → Rch l k b c := by
          intro b c hbc
          have hh : ∀ b c, Suc (chg (lk1 p q r (inv q)) l) k b c → Suc l k b c := fun b c hs => by
            rcases hsuc b c hs with h1 | h1 | h1
            · exact h1
            · exact absurd h1.1 hq
            · exact absurd h1.1 hq2
          induction hbc with
          | one h1 => exact .one (hh _ _ h1)
          | more _ h2 ih => exact .more ih (hh _ _ h2)
        exact this a a ha
  refine ⟨fun a k b hk => ?_, fun a k b hk => ?_, hring 2 (by decide) (by decide) h.r2, hring 4 (by decide) (by decide) h.r4⟩
  · rcases (hlk _ _ _).1 hk with h1 | ⟨_, e, _⟩ | ⟨_, e, _⟩
    · exact h.inv0 _ _ _ h1
    · rw [e]; exact ok.inv0
    · rw [e, hii]; exact hrange.2.1
  · rcases (hlk _ _ _).1 hk with h1 | ⟨e1, e2, e3⟩ | ⟨e1, e2, e3⟩
    · exact (hlk _ _ _).2 (.inl (h.back _ _ _ h1))
    · subst e1 e2 e3; exact (hlk _ _ _).2 (.inr (.inr ⟨rfl, rfl, rfl⟩))
    · subst e1 e2 e3; exact (hlk _ _ _).2 (.inr (.inl ⟨rfl, hii, rfl⟩))
end Go.Proofs.Ytiecekikcegnmaa

/- Plain: Unlink behind Link and Link behind Unlink give the list of before. -/
namespace Go.Proofs.Ytiecekikcegnmaa
open Go.Dl

theorem lessL_iff {x y : Lnk} : lessL x y = true ↔ x.kind < y.kind ∨ (x.kind = y.kind ∧ x.to < y.to) := by simp [lessL]
theorem lessL_irr (x : Lnk) : lessL x x = false := by
  rw [Bool.eq_false_iff]; intro h; have := lessL_iff.1 h; omega
theorem lessL_tr {x y z : Lnk} (h : lessL x y = true) (k : lessL y z = true) : lessL x z = true := by
  rw [lessL_iff] at *; omega
theorem lessL_asym {x y : Lnk} (h : lessL x y = true) : lessL y x = false := by
  rw [Bool.eq_false_iff]; intro k; have := lessL_tr h k; rw [lessL_irr] at this; cases this

theorem adj_pair {α : Type} {r : α → α → Prop} (tr : ∀ x y z, r x y → r y z → r x z) {l : List α} (h : Adj r l) : l.Pairwise r := by
  have key : ∀ (d i : Nat) (x y : α), l[i]? = some x → l[i + 1 + d]? = some y → r x y := by
    intro d
    induction d with
    | zero => exact fun i x y hx hy => h i x y hx hy
    | succ d ih =>
      intro i x y hx hy
      have hl := (List.getElem?_eq_some_iff.1 hy).1
      have hz : l[i + 1 + d]? = some l[i + 1 + d] := List.getElem?_eq_getElem (by omega)
      exact tr _ _ _ (ih i x _ hx hz) (h (i + 1 + d) _ y hz hy)
  rw [List.pairwise_iff_getElem]
  intro i j hi hj hij
  exact key (j - i - 1) i _ _ (List.getElem?_eq_getElem hi) (by rw [show i + 1 + (j - i - 1) = j by omega]; exact List.getElem?_eq_getElem hj)

theorem filter_ne {L : List Lnk} {x : Lnk} (h : x ∉ L) : L.filter (fun y => !decide (y = x)) = L :=
  List.filter_eq_self.2 fun y hy => by
    have : y ≠ x := fun e => h (e ▸ hy)
    simp [this]
theorem insL_out {L : List Lnk} {x : Lnk} (h : x ∉ L) : (insL L x).filter (fun y => !decide (y = x)) = L := by
  rw [insL, if_neg (fun h2 => h (any_mem.1 h2)), withL, putAt, List.filter_append, List.filter_cons]
  simp only [decide_true, Bool.not_true, Bool.false_eq_true, if_false]
  rw [← List.filter_append, List.take_append_drop]
  exact filter_ne h
theorem withL_cons {y x : Lnk} {L : List Lnk} (h : lessL y x = true) : withL (y :: L) x = y :: withL L x := by
  simp [withL, putAt, lowI, h]
theorem out_insL : ∀ {L : List Lnk} {x : Lnk}, L.Pairwise (fun x y => lessL x y = true) → x ∈ L → insL (L.filter (fun y => !decide (y = x))) x = L
  | [], x, _, h => by simp at h
  | y :: L, x, hp, h => by
    obtain ⟨h1, h2⟩ := List.pairwise_cons.1 hp
    have hnm : x ∉ (y :: L).filter (fun y => !decide (y = x)) := by simp
    rw [insL, if_neg (fun h2 => hnm (any_mem.1 h2))]
    rw [List.filter_cons]
    by_cases e : y = x
    · subst e
      have hn : y ∉ L := fun hm => by have := h1 y hm; rw [lessL_irr] at this; cases this
      simp only [decide_true, Bool.not_true, Bool.false_eq_true, if_false]
      rw [filter_ne hn]
      cases L with
      | nil => simp [withL, putAt, lowI]
      | cons z L =>
        have := lessL_asym (h1 z (by simp))
        simp [withL, putAt, lowI, this]
    · have hm : x ∈ L := by rcases List.mem_cons.1 h with h | h; · exact absurd h.symm e
                            · exact h
      simp only [e, decide_false, Bool.not_false, if_true]
      rw [withL_cons (h1 x hm)]
      have := out_insL h2 hm
      rw [insL, if_neg (fun h2 => by have := any_mem.1 h2; simp at this)] at this
      rw [this]

theorem chg_chg {l : List Ent} {f g : Ent → List Lnk} (h : ∀ e ∈ l, f { e with links := g e } = e.links) : chg f (chg g l) = l := by
  rw [chg, chg, List.map_map]
  conv => rhs; rw [← List.map_id l]
  apply List.map_congr_left
  intro e he
  simp only [Function.comp, id]
  rw [h e he]

theorem unlink_of {l : List Ent} (hd : Distinct l) {a k b : Int} (hb : ∃ e ∈ l, e.id = b) (h : Lk l a k b) : unlinkK l a k b = (chg (fun e => e.links.filter fun x => !unP e.id a k b (inv k) x) l, 0) := by
  obtain ⟨e, he, hi, _⟩ := id h
  unfold unlinkK
  rw [if_neg]
  rw [(getE_true hd).2 ⟨e, he, hi⟩, (getE_true hd).2 hb, hasL_iff.2 ((getE_lk hd).2 h)]
  simp

theorem link_unlink {l : List Ent} (hd : Distinct l) (h : Good l) {p q r : Int} (hu : (linkK l p q r).2 = 0) :
    unlinkK (linkK l p q r).1 p q r = (l, 0) ∧ unlinkK (linkK l p q r).1 r (inv q) p = (l, 0) := by
  obtain ⟨ok, he⟩ := link_ok hd hu
  rw [he]
  have hm := chg_distinct hd (lk1 p q r (inv q))
  have hii := (inv_inv ok.inv0).1
  have hl1 : Lk (chg (lk1 p q r (inv q)) l) p q r := (link_lk ok.ne ok.ia ok.ib).2 (.inr (.inl ⟨rfl, rfl, rfl⟩))
  have hl2 : Lk (chg (lk1 p q r (inv q)) l) r (inv q) p := (link_lk ok.ne ok.ia ok.ib).2 (.inr (.inr ⟨rfl, rfl, rfl⟩))
  have hnew2 : ¬ Lk l r (inv q) p := fun hh => ok.new (by have := h.back _ _ _ hh; rwa [hii] at this)
  have key : ∀ e ∈ l, (lk1 p q r (inv q) e).filter (fun x => !((decide (e.id = p) && decide (x = ⟨q, r⟩)) || (decide (e.id = r) && decide (x = ⟨inv q, p⟩)))) = e.links := by
    intro e hel
    rw [filt2]
    unfold lk1
    by_cases h1 : e.id = p
    · have h2 : ¬ e.id = r := fun h3 => ok.ne (by rw [← h1, h3])
      simp only [h1, ok.ne, decide_true, decide_false, if_true, Bool.false_eq_true, if_false]
      exact insL_out fun hx => ok.new ⟨e, hel, h1, hx⟩
    · by_cases h2 : e.id = r
      · simp only [h2, Ne.symm ok.ne, decide_true, decide_false, if_true, Bool.false_eq_true, if_false]
        exact insL_out fun hx => hnew2 ⟨e, hel, h2, hx⟩
      · simp [h1, h2]
  constructor
  · rw [unlink_of hm (chg_id.2 ok.ib) hl1, chg_chg]
    intro e hel
    simp only [unP_eq _ _ _ _ _ _ ok.inv0]
    exact key e hel
  · have h0' : 0 ≤ inv (inv q) := by rw [hii]; exact (inv_inv ok.inv0).2.1
    rw [unlink_of hm (chg_id.2 ok.ia) hl2, chg_chg]
    intro e hel
    simp only [unP_eq _ _ _ _ _ _ h0']
    rw [hii, ← key e hel]
    congr 1
    funext x
    rw [Bool.or_comm]

theorem unlink_link {l : List Ent} (hf : Few l) (h : Good l) {p q r : Int} (hne : p ≠ r) (hu : (unlinkK l p q r).2 = 0) :
    (linkK (unlinkK l p q r).1 p q r).2 = 11 ∨ linkK (unlinkK l p q r).1 p q r = (l, 0) := by
  have hd := few_distinct hf
  have hc : ¬ ((getE l p).2 = false ∨ (getE l r).2 = false ∨ hasL (getE l p).1 ⟨q, r⟩ = false) := by
    intro hc; unfold unlinkK at hu; rw [if_pos hc] at hu; cases hu
  simp only [not_or, Bool.not_eq_false] at hc
  have hlk : Lk l p q r := (getE_lk hd).1 (hasL_iff.1 hc.2.2)
  have h0 := h.inv0 _ _ _ hlk
  have hb := h.back _ _ _ hlk
  have hii := (inv_inv h0).1
  have ir := (getE_true hd).1 hc.2.1
  have ip := (getE_true hd).1 hc.1
  rw [unlink_of hd ir hlk]
  simp only
  have hm := chg_distinct hd (fun e => e.links.filter fun x => !unP e.id p q r (inv q) x)
  have hring : inv q ≠ q → ¬ Rch (chg (fun e => e.links.filter fun x => !unP e.id p q r (inv q) x) l) q r p := by
    intro hk hr
    have hr' : Rch l q r p := by
      have hh : ∀ b c, Suc (chg (fun e => e.links.filter fun x => !unP e.id p q r (inv q) x) l) q b c → Suc l q b c := fun b c hs => by
        obtain ⟨h1, h2⟩ := (suc_iff hm).1 hs
        exact (suc_iff hd).2 ⟨((unlink_lk h0).1 h1).1, chg_id.1 h2⟩
      have gen : ∀ b c, Rch (chg (fun e => e.links.filter fun x => !unP e.id p q r (inv q) x) l) q b c → Rch l q b c := fun b c hbc => by
        induction hbc with
        | one h1 => exact .one (hh _ _ h1)
        | more _ h2 ih => exact .more ih (hh _ _ h2)
      exact gen _ _ hr
    have hs : Suc l q p r := (suc_iff hd).2 ⟨hlk, ir⟩
    have hq : 2 ≤ q := by
      have := (inv_inv h0).2.1
      have := (inv_ne q h0).1 hk
      omega
    exact h.ring hd hq (Rch.trans (.one hs) hr')
  rcases link_of hm (chg_id.2 ip) (chg_id.2 ir) h0 hne (fun hh => ((unlink_lk h0).1 hh).2.1 ⟨rfl, rfl, rfl⟩) hring with h1 | h1
  · exact .inl h1
  · refine .inr ?_
    rw [h1, chg_chg]
    intro e hel
    simp only [lk1, unP_eq _ _ _ _ _ _ h0, filt2]
    have hp := adj_pair (r := fun x y => lessL x y = true) (fun x y z => lessL_tr) (hf.each e hel).up
    by_cases h1 : e.id = p
    · have h2 : ¬ e.id = r := fun h3 => hne (by rw [← h1, h3])
      simp only [h1, hne, decide_true, decide_false, if_true, Bool.false_eq_true, if_false]
      obtain ⟨e', he', hi', hx⟩ := hlk
      have : e = e' := mem_one hd hel he' (by rw [hi', h1])
      subst this
      exact out_insL hp hx
    · by_cases h2 : e.id = r
      · simp only [h2, Ne.symm hne, decide_true, decide_false, if_true, Bool.false_eq_true, if_false]
        obtain ⟨e', he', hi', hx⟩ := hb
        have : e = e' := mem_one hd hel he' (by rw [hi', h2])
        subst this
        exact out_insL hp hx
      · simp [h1, h2]

theorem clear_links {l : List Ent} {c : Int} {e : Ent} (he : e ∈ clearK l c) {x : Lnk} (hx : x ∈ e.links) : e.id ≠ c ∧ x.to ≠ c := by
  have := (clear_lk (l := l) (c := c) (a := e.id) (k := x.kind) (b := x.to)).1 ⟨e, he, rfl, hx⟩
  exact this.2

theorem chg_mid {l : List Ent} (hf : Few l) {f : Ent → List Lnk} (h : ∀ e, (f e).length ≤ e.links.length + 1) : MidE (chg f l) := by
  refine ⟨by rw [chg_len]; have := hf.len; omega, fun e he => ?_⟩
  simp only [chg, List.mem_map] at he
  obtain ⟨e', he', rfl⟩ := he
  have := (hf.each e' he').links
  have := h e'
  simp only; omega
theorem link_mid {l : List Ent} (hf : Few l) {p q r : Int} (hu : (linkK l p q r).2 = 0) : MidE (linkK l p q r).1 := by
  obtain ⟨_, he⟩ := link_ok (few_distinct hf) hu
  rw [he]
  refine chg_mid hf fun e => ?_
  unfold lk1
  split
  · exact insL_len _ _
  · split
    · exact insL_len _ _
    · omega
theorem unlink_mid {l : List Ent} (hf : Few l) (p q r : Int) : MidE (unlinkK l p q r).1 := by
  unfold unlinkK
  split
  · exact ⟨by simp, by simp⟩
  · refine chg_mid hf fun e => ?_
    have := List.length_filter_le (fun x => !unP e.id p q r (inv q) x) e.links
    omega
theorem clear_mid {l : List Ent} (hf : Few l) (c : Int) : MidE (clearK l c) := chg_mid hf fun e => by
  have := List.length_filter_le (fun x => !clP e.id c x) e.links
  omega
end Go.Proofs.Ytiecekikcegnmaa

/- The chapter's example. -/
namespace Go.Proofs.Ytiecekikcegnmaa
open Go.Dl
attribute [local irreducible] DW DCalls ECalls wk IW

def exE (id : Int) (ls : List Lnk) : Ent := ⟨id, [], 0, [], 0, [], ls, []⟩
def exA : List Ent := [exE 3 [], exE 5 []]
def exB : List Ent := [exE 3 [⟨2, 5⟩], exE 5 [⟨3, 3⟩]]

theorem exA_mid : MidE exA := ⟨by decide, by decide⟩
theorem exB_mid : MidE exB := ⟨by decide, by decide⟩
theorem exA_dis : Distinct exA := by unfold Distinct; decide
theorem exB_dis : Distinct exB := by unfold Distinct; decide
theorem exB_few : Few exB := by
  constructor
  · decide
  · intro i x y hx hy
    rcases i with _ | _ | i
    · simp [exB] at hx hy; subst hx; subst hy; decide
    · simp [exB] at hy
    · simp [exB] at hx
  · intro e he
    simp [exB] at he
    rcases he with rfl | rfl <;> exact ⟨by decide, by decide, by decide, by decide, by intro i x y hx hy; rcases i with _ | i <;> simp [exE] at hx hy⟩
theorem ex_link : linkK exA 3 2 5 = (exB, 0) := by rw [link_eq' exA_dis]; decide
theorem ex_check : chkF exB (reachK exB) = 0 := by rw [chk_eq]; decide
theorem ex_cycle : linkK exB 5 2 3 = ([], 17) := by rw [link_eq' exB_dis]; decide
theorem ex_twice : linkK exB 3 2 5 = ([], 8) := by rw [link_eq' exB_dis]; decide
theorem ex_unlink : unlinkK exB 5 3 3 = (exA, 0) := by decide
theorem ex_clear : clearK exB 3 = exA := by decide
theorem ex_reach : reachK exB 3 2 = [5] := by rw [reach_eq exB_few]; decide

set_option maxRecDepth 10000 in
set_option maxHeartbeats 4000000 in
--F13
theorem awake_D : DCalls Try.prog 13 [] (dv (lb true)) := by
  have g1 := link_D exA 3 2 5 exA_mid
  have g2 := link_D exB 5 2 3 exB_mid
  have g3 := link_D exB 3 2 5 exB_mid
  have g4 := unlink_D exB 5 3 3 exB_mid
  have g5 := clear_D exB 3 exB_mid
  have g6 := check_D exB exB_mid
  have g7 := reach_D exB 3 2 exB_mid.small
  rw [ex_link] at g1
  rw [ex_cycle] at g2
  rw [ex_twice] at g3
  rw [ex_unlink] at g4
  rw [ex_clear] at g5
  rw [ex_check] at g6
  rw [ex_reach] at g7
  have s1 := same25_D exA exA (by decide)
  have s2 := sameI_D [5] [5] (by decide)
  have s3 := listed_D [⟨2, 5⟩] [⟨2, 5⟩] (by decide)
  have s4 := listed_D [⟨3, 3⟩] [⟨3, 3⟩] (by decide)
  have i1 := inverse_D 4
  have i2 := inverse_D 6
  rw [show inv 4 = 5 by decide] at i1
  rw [show inv 6 = -1 by decide] at i2
  simp only [decide_true] at s1 s2 s3 s4
  simp only [ints, List.map_cons, List.map_nil, Lnk.enc, Ent.enc, exA, exB, exE] at g1 g2 g3 g4 g5 g6 g7 s1 s2 s3 s4
  refine dcalls (N := 100) (rs := [.tmp 0]) (by kernel_rfl) Try.func13 rfl rfl rfl (by simp) ?_
  (repeat' (first | (refine dw_seq ?_) | (refine dw_block ?_) | ((first | (refine dw_reg (N := 100) rfl (by kernel_rfl) ?_) | (refine dw_skip ?_) | (refine dw_exit ?_) | (refine CallC.mk (g1) (LeL.of_eq rfl) ?_) | (refine CallC.light (g1) (LeL.of_eq rfl) ?_) | (refine CallC.mk (g2) (LeL.of_eq rfl) ?_) | (refine CallC.light (g2) (LeL.of_eq rfl) ?_) | (refine CallC.mk (g3) (LeL.of_eq rfl) ?_) | (refine CallC.light (g3) (LeL.of_eq rfl) ?_) | (refine CallC.mk (g4) (LeL.of_eq rfl) ?_) | (refine CallC.light (g4) (LeL.of_eq rfl) ?_) | (refine CallC.mk (g5) (LeL.of_eq rfl) ?_) | (refine CallC.light (g5) (LeL.of_eq rfl) ?_) | (refine CallC.mk (g6) (LeL.of_eq rfl) ?_) | (refine CallC.light (g6) (LeL.of_eq rfl) ?_) | (refine CallC.mk (g7) (LeL.of_eq rfl) ?_) | (refine CallC.light (g7) (LeL.of_eq rfl) ?_) | (refine CallC.mk (s1) (LeL.of_eq rfl) ?_) | (refine CallC.light (s1) (LeL.of_eq rfl) ?_) | (refine CallC.mk (s2) (LeL.of_eq rfl) ?_) | (refine CallC.light (s2) (LeL.of_eq rfl) ?_) | (refine CallC.mk (s3) (LeL.of_eq rfl) ?_) | (refine CallC.light (s3) (LeL.of_eq rfl) ?_) | (refine CallC.mk (s4) (LeL.of_eq rfl) ?_) | (refine CallC.light (s4) (LeL.of_eq rfl) ?_) | (refine CallC.mk (i1) (LeL.of_eq rfl) ?_) | (refine CallC.light (i1) (LeL.of_eq rfl) ?_) | (refine CallC.mk (i2) (LeL.of_eq rfl) ?_) | (refine CallC.light (i2) (LeL.of_eq rfl) ?_) | (refine dw_ret ?_)); simp (decide := true) only [go_sem, reduceIte, reduceCtorEq, n1, n2, n3, n4, n5, n6, bne_self_eq_false, show Int.toNat 1 = 1 from rfl, List.getElem?_cons_succ, List.getElem?_cons_zero]) | (apply dw_cond; (simp (decide := true) only [go_sem, reduceIte, reduceCtorEq, n1, n2, n3, n4, n5, n6, bne_self_eq_false, show Int.toNat 1 = 1 from rfl, List.getElem?_cons_succ, List.getElem?_cons_zero]; rfl); all_goals (intro hcnd; first | (exact absurd hcnd (by decide)) | skip)) | ((first | refine guardC_f ?_ ?_ | refine guardC_t ?_ ?_) <;> (intro hcnd; simp (decide := true) only [go_sem, reduceIte, reduceCtorEq, n1, n2, n3, n4, n5, n6, hcnd, bne_self_eq_false, show Int.toNat 1 = 1 from rfl, List.getElem?_cons_succ, List.getElem?_cons_zero]))))
end Go.Proofs.Ytiecekikcegnmaa

/- Relations of entries: the laws (I). -/
namespace Go.Proofs.Ytiecekikcegnmaa
open Go.Dl
attribute [local irreducible] DW DCalls ECalls wk IW

structure AskT where
  l : List Ent
  p : Int
  q : Int
  r : Int
def AskT.row (a : AskT) : List T := [.c (.sl 8 (a.l.map Ent.enc)), .c (li a.p), .c (li a.q), .c (li a.r)]

theorem inv_back (k : Int) (h : decide (inv k < 0) = false) : inv (inv k) = k := (inv_inv (by simp at h; omega)).1

set_option maxRecDepth 10000 in
set_option maxHeartbeats 4000000 in
--F3
theorem lawInverse (k : Int) : DCalls Try.prog 3 [dv (li k)] (dv (lb true)) := by
  refine dcalls (N := 23) (rs := [.tmp 2]) (by kernel_rfl) Try.func3 rfl rfl rfl (by simp) ?_
  have h0 : (inv k == inv k) = true := by simp
  cases h1 : decide (inv k < 0)
  · have h2 := inv_back k h1
    have h3 := inverse_D (inv k)
    rw [h2] at h3
    have h4 : (k == k) = true := by simp
    (repeat' (first | (refine dw_seq ?_) | (refine dw_block ?_) | ((first | (refine dw_reg (N := 23) rfl (by kernel_rfl) ?_) | (refine dw_skip ?_) | (refine dw_exit ?_) | (refine CallC.mk (inverse_D k) (LeL.of_eq rfl) ?_) | (refine CallC.light (inverse_D k) (LeL.of_eq rfl) ?_) | (refine CallC.mk (rInverse_D k) (LeL.of_eq rfl) ?_) | (refine CallC.light (rInverse_D k) (LeL.of_eq rfl) ?_) | (refine CallC.mk (awake_D) (LeL.of_eq rfl) ?_) | (refine CallC.light (awake_D) (LeL.of_eq rfl) ?_) | (refine CallC.mk (h3) (LeL.of_eq rfl) ?_) | (refine CallC.light (h3) (LeL.of_eq rfl) ?_) | (refine dw_ret ?_)); simp (decide := true) only [go_sem, reduceIte, reduceCtorEq, n1, n2, n3, n4, n5, n6, h0, h1, h4]) | (apply dw_cond; (simp (decide := true) only [go_sem, reduceIte, reduceCtorEq, n1, n2, n3, n4, n5, n6, h0, h1, h4]; rfl); all_goals (intro hcnd; first | (exact absurd hcnd (by decide)) | skip)) | ((first | refine guardC_f ?_ ?_ | refine guardC_t ?_ ?_) <;> (intro hcnd; simp (decide := true) only [go_sem, reduceIte, reduceCtorEq, n1, n2, n3, n4, n5, n6, hcnd, h0, h1, h4]))))
  · (repeat' (first | (refine dw_seq ?_) | (refine dw_block ?_) | ((first | (refine dw_reg (N := 23) rfl (by kernel_rfl) ?_) | (refine dw_skip ?_) | (refine dw_exit ?_) | (refine CallC.mk (inverse_D k) (LeL.of_eq rfl) ?_) | (refine CallC.light (inverse_D k) (LeL.of_eq rfl) ?_) | (refine CallC.mk (rInverse_D k) (LeL.of_eq rfl) ?_) | (refine CallC.light (rInverse_D k) (LeL.of_eq rfl) ?_) | (refine CallC.mk (awake_D) (LeL.of_eq rfl) ?_) | (refine CallC.light (awake_D) (LeL.of_eq rfl) ?_) | (refine dw_ret ?_)); simp (decide := true) only [go_sem, reduceIte, reduceCtorEq, n1, n2, n3, n4, n5, n6, h0, h1]) | (apply dw_cond; (simp (decide := true) only [go_sem, reduceIte, reduceCtorEq, n1, n2, n3, n4, n5, n6, h0, h1]; rfl); all_goals (intro hcnd; first | (exact absurd hcnd (by decide)) | skip)) | ((first | refine guardC_f ?_ ?_ | refine guardC_t ?_ ?_) <;> (intro hcnd; simp (decide := true) only [go_sem, reduceIte, reduceCtorEq, n1, n2, n3, n4, n5, n6, hcnd, h0, h1]))))

set_option maxRecDepth 10000 in
set_option maxHeartbeats 4000000 in
--F4
theorem lawCheck (l : List Ent) : DCalls Try.prog 4 [dv (.sl 8 (l.map Ent.enc))] (dv (lb true)) := by
  refine dcalls (N := 15) (rs := [.tmp 2]) (by kernel_rfl) Try.func4 rfl rfl rfl (by simp) ?_
  have hF := few_D l
  by_cases hf : Few l
  · rw [fewB_t hf] at hF
    have h1 := check_D l (few_mid hf)
    have h2 := rCheck_D l (few_mid hf) (few_distinct hf)
    rw [← chk_eq] at h2
    have h0 : (chkF l (reachK l) == chkF l (reachK l)) = true := by simp
    (repeat' (first | (refine dw_seq ?_) | (refine dw_block ?_) | ((first | (refine dw_reg (N := 15) rfl (by kernel_rfl) ?_) | (refine dw_skip ?_) | (refine dw_exit ?_) | (refine CallC.mk (hF) (LeL.of_eq rfl) ?_) | (refine CallC.light (hF) (LeL.of_eq rfl) ?_) | (refine CallC.mk (h1) (LeL.of_eq rfl) ?_) | (refine CallC.light (h1) (LeL.of_eq rfl) ?_) | (refine CallC.mk (h2) (LeL.of_eq rfl) ?_) | (refine CallC.light (h2) (LeL.of_eq rfl) ?_) | (refine CallC.mk (awake_D) (LeL.of_eq rfl) ?_) | (refine CallC.light (awake_D) (LeL.of_eq rfl) ?_) | (refine dw_ret ?_)); simp (decide := true) only [go_sem, reduceIte, reduceCtorEq, n1, n2, n3, n4, n5, n6, h0]) | (apply dw_cond; (simp (decide := true) only [go_sem, reduceIte, reduceCtorEq, n1, n2, n3, n4, n5, n6, h0]; rfl); all_goals (intro hcnd; first | (exact absurd hcnd (by decide)) | skip)) | ((first | refine guardC_f ?_ ?_ | refine guardC_t ?_ ?_) <;> (intro hcnd; simp (decide := true) only [go_sem, reduceIte, reduceCtorEq, n1, n2, n3, n4, n5, n6, hcnd, h0]))))
  · rw [fewB_f hf] at hF
    (repeat' (first | (refine dw_seq ?_) | (refine dw_block ?_) | ((first | (refine dw_reg (N := 15) rfl (by kernel_rfl) ?_) | (refine dw_skip ?_) | (refine dw_exit ?_) | (refine CallC.mk (hF) (LeL.of_eq rfl) ?_) | (refine CallC.light (hF) (LeL.of_eq rfl) ?_) | (refine CallC.mk (awake_D) (LeL.of_eq rfl) ?_) | (refine CallC.light (awake_D) (LeL.of_eq rfl) ?_) | (refine dw_ret ?_)); simp (decide := true) only [go_sem, reduceIte, reduceCtorEq, n1, n2, n3, n4, n5, n6]) | (apply dw_cond; (simp (decide := true) only [go_sem, reduceIte, reduceCtorEq, n1, n2, n3, n4, n5, n6]; rfl); all_goals (intro hcnd; first | (exact absurd hcnd (by decide)) | skip)) | ((first | refine guardC_f ?_ ?_ | refine guardC_t ?_ ?_) <;> (intro hcnd; simp (decide := true) only [go_sem, reduceIte, reduceCtorEq, n1, n2, n3, n4, n5, n6, hcnd]))))

theorem linkK_len (l : List Ent) (a k b : Int) : (linkK l a k b).1.length ≤ l.length := by
  unfold linkK
  (repeat' split) <;> simp [chg]
theorem unlinkK_len (l : List Ent) (a k b : Int) : (unlinkK l a k b).1.length ≤ l.length := by
  unfold unlinkK
  (repeat' split) <;> simp [chg]

set_option maxRecDepth 10000 in
set_option maxHeartbeats 4000000 in
--F5
theorem lawLinks (a : AskT) : DCalls Try.prog 5 [.agg a.row] (dv (lb true)) := by
  have hmax : maxLen = 9223372036854775807 := rfl
  refine dcalls (N := 47) (rs := [.tmp 2]) (by kernel_rfl) Try.func5 rfl rfl rfl (by simp) ?_
  have hF := few_D a.l
  by_cases hf : Few a.l
  · rw [fewB_t hf] at hF
    have h1 := link_D a.l a.p a.q a.r (few_mid hf)
    have h2 := rLink_D a.l a.p a.q a.r (few_mid hf) (few_distinct hf)
    rw [← link_eq' (few_distinct hf)] at h2
    have hlen := linkK_len a.l a.p a.q a.r
    have h3 := same25_D (linkK a.l a.p a.q a.r).1 (linkK a.l a.p a.q a.r).1 (by have := hf.len; omega)
    simp only [decide_true] at h3
    have h0 : ((linkK a.l a.p a.q a.r).2 == (linkK a.l a.p a.q a.r).2) = true := by simp
    (repeat' (first | (refine dw_seq ?_) | (refine dw_block ?_) | ((first | (refine dw_reg (N := 47) rfl (by kernel_rfl) ?_) | (refine dw_skip ?_) | (refine dw_exit ?_) | (refine CallC.mk (hF) (LeL.of_eq rfl) ?_) | (refine CallC.light (hF) (LeL.of_eq rfl) ?_) | (refine CallC.mk (h1) (LeL.of_eq rfl) ?_) | (refine CallC.light (h1) (LeL.of_eq rfl) ?_) | (refine CallC.mk (h2) (LeL.of_eq rfl) ?_) | (refine CallC.light (h2) (LeL.of_eq rfl) ?_) | (refine CallC.mk (h3) (LeL.of_eq rfl) ?_) | (refine CallC.light (h3) (LeL.of_eq rfl) ?_) | (refine CallC.mk (awake_D) (LeL.of_eq rfl) ?_) | (refine CallC.light (awake_D) (LeL.of_eq rfl) ?_) | (refine dw_ret ?_)); simp (decide := true) only [go_sem, reduceIte, reduceCtorEq, n1, n2, n3, n4, n5, n6, h0, AskT.row]) | (apply dw_cond; (simp (decide := true) only [go_sem, reduceIte, reduceCtorEq, n1, n2, n3, n4, n5, n6, h0, AskT.row]; rfl); all_goals (intro hcnd; first | (exact absurd hcnd (by decide)) | skip)) | ((first | refine guardC_f ?_ ?_ | refine guardC_t ?_ ?_) <;> (intro hcnd; simp (decide := true) only [go_sem, reduceIte, reduceCtorEq, n1, n2, n3, n4, n5, n6, hcnd, h0, AskT.row]))))
  · rw [fewB_f hf] at hF
    (repeat' (first | (refine dw_seq ?_) | (refine dw_block ?_) | ((first | (refine dw_reg (N := 47) rfl (by kernel_rfl) ?_) | (refine dw_skip ?_) | (refine dw_exit ?_) | (refine CallC.mk (hF) (LeL.of_eq rfl) ?_) | (refine CallC.light (hF) (LeL.of_eq rfl) ?_) | (refine CallC.mk (awake_D) (LeL.of_eq rfl) ?_) | (refine CallC.light (awake_D) (LeL.of_eq rfl) ?_) | (refine dw_ret ?_)); simp (decide := true) only [go_sem, reduceIte, reduceCtorEq, n1, n2, n3, n4, n5, n6, AskT.row]) | (apply dw_cond; (simp (decide := true) only [go_sem, reduceIte, reduceCtorEq, n1, n2, n3, n4, n5, n6, AskT.row]; rfl); all_goals (intro hcnd; first | (exact absurd hcnd (by decide)) | skip)) | ((first | refine guardC_f ?_ ?_ | refine guardC_t ?_ ?_) <;> (intro hcnd; simp (decide := true) only [go_sem, reduceIte, reduceCtorEq, n1, n2, n3, n4, n5, n6, hcnd, AskT.row]))))

set_option maxRecDepth 10000 in
set_option maxHeartbeats 4000000 in
--F6
theorem lawUnlinks (a : AskT) : DCalls Try.prog 6 [.agg a.row] (dv (lb true)) := by
  have hmax : maxLen = 9223372036854775807 := rfl
  refine dcalls (N := 60) (rs := [.tmp 2]) (by kernel_rfl) Try.func6 rfl rfl rfl (by simp) ?_
  have hF := few_D a.l
  by_cases hf : Few a.l
  · rw [fewB_t hf] at hF
    have h1 := unlink_D a.l a.p a.q a.r (few_mid hf)
    have h2 := rUnlink_D a.l a.p a.q a.r (few_mid hf) (few_distinct hf)
    rw [← unlink_eq] at h2
    have hlen := unlinkK_len a.l a.p a.q a.r
    have h3 := same25_D (unlinkK a.l a.p a.q a.r).1 (unlinkK a.l a.p a.q a.r).1 (by have := hf.len; omega)
    have h4 := clear_D a.l a.p (few_mid hf)
    have h5 := rClear_D a.l a.p (few_mid hf)
    have h6 := same25_D (clearK a.l a.p) (clearK a.l a.p) (by have := hf.len; rw [clearK, chg_len]; omega)
    simp only [decide_true] at h3 h6
    have h0 : ((unlinkK a.l a.p a.q a.r).2 == (unlinkK a.l a.p a.q a.r).2) = true := by simp
    (repeat' (first | (refine dw_seq ?_) | (refine dw_block ?_) | ((first | (refine dw_reg (N := 60) rfl (by kernel_rfl) ?_) | (apply dw_drw (id := 5) (N := 60) [(0, .light), (1, .light), (2, .light), (3, .light), (4, .light), (5, .light), (6, .step), (7, .light), (8, .light), (9, .light), (10, .light), (11, .light), (12, .light), (13, .light), (14, .light), (15, .light), (16, .light), (17, .light), (18, .step), (19, .step), (20, .light), (21, .light), (22, .step), (23, .light), (24, .light)]; kernel_rfl; rfl; kernel_rfl; (repeat (first | exact Picks.nil | (apply Picks.cons; rfl)))) | (refine dw_skip ?_) | (refine dw_exit ?_) | (refine CallC.mk (hF) (LeL.of_eq rfl) ?_) | (refine CallC.light (hF) (LeL.of_eq rfl) ?_) | (refine CallC.mk (h1) (LeL.of_eq rfl) ?_) | (refine CallC.light (h1) (LeL.of_eq rfl) ?_) | (refine CallC.mk (h2) (LeL.of_eq rfl) ?_) | (refine CallC.light (h2) (LeL.of_eq rfl) ?_) | (refine CallC.mk (h3) (LeL.of_eq rfl) ?_) | (refine CallC.light (h3) (LeL.of_eq rfl) ?_) | (refine CallC.mk (h4) (LeL.of_eq rfl) ?_) | (refine CallC.light (h4) (LeL.of_eq rfl) ?_) | (refine CallC.mk (h5) (LeL.of_eq rfl) ?_) | (refine CallC.light (h5) (LeL.of_eq rfl) ?_) | (refine CallC.mk (h6) (LeL.of_eq rfl) ?_) | (refine CallC.light (h6) (LeL.of_eq rfl) ?_) | (refine CallC.mk (awake_D) (LeL.of_eq rfl) ?_) | (refine CallC.light (awake_D) (LeL.of_eq rfl) ?_) | (refine dw_ret ?_)); simp (decide := true) only [go_sem, reduceIte, reduceCtorEq, n1, n2, n3, n4, n5, n6, h0, AskT.row]) | (apply dw_cond; (simp (decide := true) only [go_sem, reduceIte, reduceCtorEq, n1, n2, n3, n4, n5, n6, h0, AskT.row]; rfl); all_goals (intro hcnd; first | (exact absurd hcnd (by decide)) | skip)) | ((first | refine guardC_f ?_ ?_ | refine guardC_t ?_ ?_) <;> (intro hcnd; simp (decide := true) only [go_sem, reduceIte, reduceCtorEq, n1, n2, n3, n4, n5, n6, hcnd, h0, AskT.row]))))
  · rw [fewB_f hf] at hF
    (repeat' (first | (refine dw_seq ?_) | (refine dw_block ?_) | ((first | (refine dw_reg (N := 60) rfl (by kernel_rfl) ?_) | (apply dw_drw (id := 5) (N := 60) [(0, .light), (1, .light), (2, .light), (3, .light), (4, .light), (5, .light), (6, .step), (7, .light), (8, .light), (9, .light), (10, .light), (11, .light), (12, .light), (13, .light), (14, .light), (15, .light), (16, .light), (17, .light), (18, .step), (19, .step), (20, .light), (21, .light), (22, .step), (23, .light), (24, .light)]; kernel_rfl; rfl; kernel_rfl; (repeat (first | exact Picks.nil | (apply Picks.cons; rfl)))) | (refine dw_skip ?_) | (refine dw_exit ?_) | (refine CallC.mk (hF) (LeL.of_eq rfl) ?_) | (refine CallC.light (hF) (LeL.of_eq rfl) ?_) | (refine CallC.mk (awake_D) (LeL.of_eq rfl) ?_) | (refine CallC.light (awake_D) (LeL.of_eq rfl) ?_) | (refine dw_ret ?_)); simp (decide := true) only [go_sem, reduceIte, reduceCtorEq, n1, n2, n3, n4, n5, n6, AskT.row]) | (apply dw_cond; (simp (decide := true) only [go_sem, reduceIte, reduceCtorEq, n1, n2, n3, n4, n5, n6, AskT.row]; rfl); all_goals (intro hcnd; first | (exact absurd hcnd (by decide)) | skip)) | ((first | refine guardC_f ?_ ?_ | refine guardC_t ?_ ?_) <;> (intro hcnd; simp (decide := true) only [go_sem, reduceIte, reduceCtorEq, n1, n2, n3, n4, n5, n6, hcnd, AskT.row]))))

set_option maxRecDepth 10000 in
set_option maxHeartbeats 4000000 in
--F7
theorem lawReach (l : List Ent) (id kind : Int) : DCalls Try.prog 7 [dv (.sl 8 (l.map Ent.enc)), dv (li id), dv (li kind)] (dv (lb true)) := by
  have hmax : maxLen = 9223372036854775807 := rfl
  refine dcalls (N := 23) (rs := [.tmp 6]) (by kernel_rfl) Try.func7 rfl rfl rfl (by simp) ?_
  have hF := few_D l
  by_cases hf : Few l
  · rw [fewB_t hf] at hF
    have h1 := reach_D l id kind (few_mid hf).small
    have h2 := rReach_D l id kind (few_mid hf).small (few_distinct hf)
    rw [← reach_eq hf] at h2
    have h3 := sameI_D (reachK l id kind) (reachK l id kind) (by have := hf.len; have := reachK_len l id kind; omega)
    simp only [decide_true] at h3
    (repeat' (first | (refine dw_seq ?_) | (refine dw_block ?_) | ((first | (refine dw_reg (N := 23) rfl (by kernel_rfl) ?_) | (refine dw_skip ?_) | (refine dw_exit ?_) | (refine CallC.mk (hF) (LeL.of_eq rfl) ?_) | (refine CallC.light (hF) (LeL.of_eq rfl) ?_) | (refine CallC.mk (h1) (LeL.of_eq rfl) ?_) | (refine CallC.light (h1) (LeL.of_eq rfl) ?_) | (refine CallC.mk (h2) (LeL.of_eq rfl) ?_) | (refine CallC.light (h2) (LeL.of_eq rfl) ?_) | (refine CallC.mk (h3) (LeL.of_eq rfl) ?_) | (refine CallC.light (h3) (LeL.of_eq rfl) ?_) | (refine CallC.mk (awake_D) (LeL.of_eq rfl) ?_) | (refine CallC.light (awake_D) (LeL.of_eq rfl) ?_) | (refine dw_ret ?_)); simp (decide := true) only [go_sem, reduceIte, reduceCtorEq, n1, n2, n3, n4, n5, n6]) | (apply dw_cond; (simp (decide := true) only [go_sem, reduceIte, reduceCtorEq, n1, n2, n3, n4, n5, n6]; rfl); all_goals (intro hcnd; first | (exact absurd hcnd (by decide)) | skip)) | ((first | refine guardC_f ?_ ?_ | refine guardC_t ?_ ?_) <;> (intro hcnd; simp (decide := true) only [go_sem, reduceIte, reduceCtorEq, n1, n2, n3, n4, n5, n6, hcnd]))))
  · rw [fewB_f hf] at hF
    (repeat' (first | (refine dw_seq ?_) | (refine dw_block ?_) | ((first | (refine dw_reg (N := 23) rfl (by kernel_rfl) ?_) | (refine dw_skip ?_) | (refine dw_exit ?_) | (refine CallC.mk (hF) (LeL.of_eq rfl) ?_) | (refine CallC.light (hF) (LeL.of_eq rfl) ?_) | (refine CallC.mk (awake_D) (LeL.of_eq rfl) ?_) | (refine CallC.light (awake_D) (LeL.of_eq rfl) ?_) | (refine dw_ret ?_)); simp (decide := true) only [go_sem, reduceIte, reduceCtorEq, n1, n2, n3, n4, n5, n6]) | (apply dw_cond; (simp (decide := true) only [go_sem, reduceIte, reduceCtorEq, n1, n2, n3, n4, n5, n6]; rfl); all_goals (intro hcnd; first | (exact absurd hcnd (by decide)) | skip)) | ((first | refine guardC_f ?_ ?_ | refine guardC_t ?_ ?_) <;> (intro hcnd; simp (decide := true) only [go_sem, reduceIte, reduceCtorEq, n1, n2, n3, n4, n5, n6, hcnd]))))
end Go.Proofs.Ytiecekikcegnmaa

/- Relations of entries: the laws (II). -/
namespace Go.Proofs.Ytiecekikcegnmaa
open Go.Dl
attribute [local irreducible] DW DCalls ECalls wk IW

set_option maxRecDepth 10000 in
set_option maxHeartbeats 8000000 in
--F8
theorem lawKeeps (a : AskT) : DCalls Try.prog 8 [.agg a.row] (dv (lb true)) := by
  have hmax : maxLen = 9223372036854775807 := rfl
  refine dcalls (N := 118) (rs := [.tmp 2]) (by kernel_rfl) Try.func8 rfl rfl rfl (by simp) ?_
  have hF := few_D a.l
  by_cases hf : Few a.l
  · rw [fewB_t hf] at hF
    have hd := few_distinct hf
    have hlen := hf.len
    have hC := check_D a.l (few_mid hf)
    cases hc : chkF a.l (reachK a.l) != 0
    rotate_left
    · (repeat' (first | (refine dw_seq ?_) | (refine dw_block ?_) | ((first | (refine dw_reg (N := 118) rfl (by kernel_rfl) ?_) | (apply dw_drw (id := 14) (N := 118) [(0, .light), (1, .light), (2, .light), (3, .light), (4, .light), (5, .light), (6, .light), (7, .light), (8, .light), (9, .light), (10, .light), (11, .light), (12, .light), (13, .light), (14, .light), (15, .light), (16, .light), (17, .light), (18, .light), (19, .light), (20, .light), (21, .light)]; kernel_rfl; rfl; kernel_rfl; (repeat (first | exact Picks.nil | (apply Picks.cons; rfl)))) | (refine dw_skip ?_) | (refine dw_exit ?_) | (refine CallC.mk (hF) (LeL.of_eq rfl) ?_) | (refine CallC.light (hF) (LeL.of_eq rfl) ?_) | (refine CallC.mk (hC) (LeL.of_eq rfl) ?_) | (refine CallC.light (hC) (LeL.of_eq rfl) ?_) | (refine CallC.mk (awake_D) (LeL.of_eq rfl) ?_) | (refine CallC.light (awake_D) (LeL.of_eq rfl) ?_) | (refine dw_ret ?_)); simp (decide := true) only [go_sem, reduceIte, reduceCtorEq, n1, n2, n3, n4, n5, n6, hc, AskT.row]) | (apply dw_cond; (simp (decide := true) only [go_sem, reduceIte, reduceCtorEq, n1, n2, n3, n4, n5, n6, hc, AskT.row]; rfl); all_goals (intro hcnd; first | (exact absurd hcnd (by decide)) | skip)) | ((first | refine guardC_f ?_ ?_ | refine guardC_t ?_ ?_) <;> (intro hcnd; simp (decide := true) only [go_sem, reduceIte, reduceCtorEq, n1, n2, n3, n4, n5, n6, hcnd, hc, AskT.row]))))
    have hg := (check_good hd).1 (by simpa using hc)
    have h1 := link_D a.l a.p a.q a.r (few_mid hf)
    have h2 := unlink_D a.l a.p a.q a.r (few_mid hf)
    have h3 := clear_D a.l a.p (few_mid hf)
    have h4 := check_D (clearK a.l a.p) (clear_mid hf _)
    rw [(check_good (l := clearK a.l a.p) (chg_distinct hd _)).2 (clear_good hd hg a.p)] at h4
    have h5 := check_D (unlinkK a.l a.p a.q a.r).1 (unlink_mid hf _ _ _)
    have u0 : ((unlinkK a.l a.p a.q a.r).2 == 0) = true → chkF (unlinkK a.l a.p a.q a.r).1 (reachK (unlinkK a.l a.p a.q a.r).1) = 0 := fun hu => by
      have hu : (unlinkK a.l a.p a.q a.r).2 = 0 := by simpa using hu
      refine (check_good ?_).2 (unlink_good hd hg hu)
      unfold unlinkK
      split
      · exact List.Pairwise.nil
      · exact chg_distinct hd _
    have k0 : ((linkK a.l a.p a.q a.r).2 == 0) = true → DCalls Try.prog 15 [dv (.sl 8 ((linkK a.l a.p a.q a.r).1.map Ent.enc))] (dv (li 0)) := fun hu => by
      have hu : (linkK a.l a.p a.q a.r).2 = 0 := by simpa using hu
      have h := check_D (linkK a.l a.p a.q a.r).1 (link_mid hf hu)
      rwa [(check_good (by rw [(link_ok hd hu).2]; exact chg_distinct hd _)).2 (link_good hd hg hu)] at h
    have hcl : (clearK a.l a.p).length = a.l.length := chg_len _ _
    have h00 : ((0 : Int) != 0) = false := rfl
    have hll : ((a.l.length : Int) != (a.l.length : Int)) = false := by simp
    have key : ∀ e ∈ clearK a.l a.p, ∀ x ∈ e.links, (e.id == a.p) = false ∧ (x.to == a.p) = false := fun e he x hx => by
      obtain ⟨h1, h2⟩ := clear_links he hx
      simp [h1, h2]
    have hml : ∀ e ∈ clearK a.l a.p, e.links.length ≤ 100000 := (clear_mid hf a.p).2
    obtain ⟨c, hcc⟩ : ∃ c, c = clearK a.l a.p := ⟨_, rfl⟩
    simp only [← hcc] at h3 h4 hcl key hml
    cases hk : (linkK a.l a.p a.q a.r).2 == 0
    · cases hu : (unlinkK a.l a.p a.q a.r).2 == 0
      · (repeat' (first | (refine dw_seq ?_) | (refine dw_block ?_) | ((first | (refine dw_reg (N := 118) rfl (by kernel_rfl) ?_) | (apply dw_drw (id := 14) (N := 118) [(0, .light), (1, .light), (2, .light), (3, .light), (4, .light), (5, .light), (6, .light), (7, .light), (8, .light), (9, .light), (10, .light), (11, .light), (12, .light), (13, .light), (14, .light), (15, .light), (16, .light), (17, .light), (18, .light), (19, .light), (20, .light), (21, .light)]; kernel_rfl; rfl; kernel_rfl; (repeat (first | exact Picks.nil | (apply Picks.cons; rfl)))) | (refine dw_skip ?_) | (refine dw_exit ?_) | (refine CallC.mk (hF) (LeL.of_eq rfl) ?_) | (refine CallC.light (hF) (LeL.of_eq rfl) ?_) | (refine CallC.mk (hC) (LeL.of_eq rfl) ?_) | (refine CallC.light (hC) (LeL.of_eq rfl) ?_) | (refine CallC.mk (h1) (LeL.of_eq rfl) ?_) | (refine CallC.light (h1) (LeL.of_eq rfl) ?_) | (refine CallC.mk (h2) (LeL.of_eq rfl) ?_) | (refine CallC.light (h2) (LeL.of_eq rfl) ?_) | (refine CallC.mk (h3) (LeL.of_eq rfl) ?_) | (refine CallC.light (h3) (LeL.of_eq rfl) ?_) | (refine CallC.mk (h4) (LeL.of_eq rfl) ?_) | (refine CallC.light (h4) (LeL.of_eq rfl) ?_) | (refine CallC.mk (awake_D) (LeL.of_eq rfl) ?_) | (refine CallC.light (awake_D) (LeL.of_eq rfl) ?_) | (refine dw_ret ?_)); simp (decide := true) only [go_sem, reduceIte, reduceCtorEq, n1, n2, n3, n4, n5, n6, hc, hk, hu, hcl, hll, h00, AskT.row]) | (apply dw_cond; (simp (decide := true) only [go_sem, reduceIte, reduceCtorEq, n1, n2, n3, n4, n5, n6, hc, hk, hu, hcl, hll, h00, AskT.row]; rfl); all_goals (intro hcnd; first | (exact absurd hcnd (by decide)) | skip)) | ((first | refine guardC_f ?_ ?_ | refine guardC_t ?_ ?_) <;> (intro hcnd; simp (decide := true) only [go_sem, reduceIte, reduceCtorEq, n1, n2, n3, n4, n5, n6, hcnd, hc, hk, hu, hcl, hll, h00, AskT.row]))))
        refine dw_rng0 c (fun k => kn 118 [(1, .one (.bx 1 4 0 0)), (7, dv (.sl 8 (c.map Ent.enc))), (8, dv (li k))] (ml [(1, [a.row])])) (by omega) (sub_ml rfl (by simp (decide := true) only [go_sem, reduceIte, reduceCtorEq, n1, n2, n3, n4, n5, n6]) (by simp (decide := true) only [go_sem, reduceIte, reduceCtorEq, n1, n2, n3, n4, n5, n6, AskT.row])) ?_ ?_
        · intro k e he hk hm htk hlt hw
          have hel := hml e hm
          (repeat' (first | (refine dw_seq ?_) | (refine dw_block ?_) | ((first | (refine dw_reg (N := 118) rfl (by kernel_rfl) ?_) | (apply dw_drw (id := 14) (N := 118) [(0, .light), (1, .light), (2, .light), (3, .light), (4, .light), (5, .light), (6, .light), (7, .light), (8, .light), (9, .light), (10, .light), (11, .light), (12, .light), (13, .light), (14, .light), (15, .light), (16, .light), (17, .light), (18, .light), (19, .light), (20, .light), (21, .light)]; kernel_rfl; rfl; kernel_rfl; (repeat (first | exact Picks.nil | (apply Picks.cons; rfl)))) | (refine dw_skip ?_) | (refine dw_exit ?_)); simp (decide := true) only [go_sem, reduceIte, reduceCtorEq, n1, n2, n3, n4, n5, n6, hlt, hw, he, Ent.enc]) | (apply dw_cond; (simp (decide := true) only [go_sem, reduceIte, reduceCtorEq, n1, n2, n3, n4, n5, n6, hlt, hw, he, Ent.enc]; rfl); all_goals (intro hcnd; first | (exact absurd hcnd (by decide)) | skip)) | ((first | refine guardC_f ?_ ?_ | refine guardC_t ?_ ?_) <;> (intro hcnd; simp (decide := true) only [go_sem, reduceIte, reduceCtorEq, n1, n2, n3, n4, n5, n6, hcnd, hlt, hw, he, Ent.enc]))))
          refine dw_rng0 e.links (fun m => kn 118 [(1, .one (.bx 1 4 0 0)), (7, dv (.sl 8 (c.map Ent.enc))), (8, dv (li k)), (9, dv (li m))] (ml [(1, [a.row])])) (by omega) (sub_ml rfl (by simp (decide := true) only [go_sem, reduceIte, reduceCtorEq, n1, n2, n3, n4, n5, n6]) (by simp (decide := true) only [go_sem, reduceIte, reduceCtorEq, n1, n2, n3, n4, n5, n6, AskT.row])) ?_ ?_
          · intro m x hx hmk hmm htm hlt2 hw2
            obtain ⟨y1, y2⟩ := key e hm x hmm
            (repeat' (first | (refine dw_seq ?_) | (refine dw_block ?_) | ((first | (refine dw_reg (N := 118) rfl (by kernel_rfl) ?_) | (apply dw_drw (id := 14) (N := 118) [(0, .light), (1, .light), (2, .light), (3, .light), (4, .light), (5, .light), (6, .light), (7, .light), (8, .light), (9, .light), (10, .light), (11, .light), (12, .light), (13, .light), (14, .light), (15, .light), (16, .light), (17, .light), (18, .light), (19, .light), (20, .light), (21, .light)]; kernel_rfl; rfl; kernel_rfl; (repeat (first | exact Picks.nil | (apply Picks.cons; rfl)))) | (refine dw_skip ?_) | (refine dw_exit ?_) | (refine dw_ret ?_)); simp (decide := true) only [go_sem, reduceIte, reduceCtorEq, n1, n2, n3, n4, n5, n6, hlt2, hw2, he, hx, y1, y2, Ent.enc, Lnk.enc, AskT.row]) | (apply dw_cond; (simp (decide := true) only [go_sem, reduceIte, reduceCtorEq, n1, n2, n3, n4, n5, n6, hlt2, hw2, he, hx, y1, y2, Ent.enc, Lnk.enc, AskT.row]; rfl); all_goals (intro hcnd; first | (exact absurd hcnd (by decide)) | skip)) | ((first | refine guardC_f ?_ ?_ | refine guardC_t ?_ ?_) <;> (intro hcnd; simp (decide := true) only [go_sem, reduceIte, reduceCtorEq, n1, n2, n3, n4, n5, n6, hcnd, hlt2, hw2, he, hx, y1, y2, Ent.enc, Lnk.enc, AskT.row]))))
            exact sub_ml rfl (by simp (decide := true) only [go_sem, reduceIte, reduceCtorEq, n1, n2, n3, n4, n5, n6]) (by simp (decide := true) only [go_sem, reduceIte, reduceCtorEq, n1, n2, n3, n4, n5, n6, AskT.row])
          · intro hlt2
            (repeat' (first | (refine dw_seq ?_) | (refine dw_block ?_) | ((first | (refine dw_reg (N := 118) rfl (by kernel_rfl) ?_) | (apply dw_drw (id := 14) (N := 118) [(0, .light), (1, .light), (2, .light), (3, .light), (4, .light), (5, .light), (6, .light), (7, .light), (8, .light), (9, .light), (10, .light), (11, .light), (12, .light), (13, .light), (14, .light), (15, .light), (16, .light), (17, .light), (18, .light), (19, .light), (20, .light), (21, .light)]; kernel_rfl; rfl; kernel_rfl; (repeat (first | exact Picks.nil | (apply Picks.cons; rfl)))) | (refine dw_skip ?_) | (refine dw_exit ?_)); simp (decide := true) only [go_sem, reduceIte, reduceCtorEq, n1, n2, n3, n4, n5, n6, hlt2, hw, he, Ent.enc]) | (apply dw_cond; (simp (decide := true) only [go_sem, reduceIte, reduceCtorEq, n1, n2, n3, n4, n5, n6, hlt2, hw, he, Ent.enc]; rfl); all_goals (intro hcnd; first | (exact absurd hcnd (by decide)) | skip)) | ((first | refine guardC_f ?_ ?_ | refine guardC_t ?_ ?_) <;> (intro hcnd; simp (decide := true) only [go_sem, reduceIte, reduceCtorEq, n1, n2, n3, n4, n5, n6, hcnd, hlt2, hw, he, Ent.enc]))))
            exact sub_ml rfl (by simp (decide := true) only [go_sem, reduceIte, reduceCtorEq, n1, n2, n3, n4, n5, n6]) (by simp (decide := true) only [go_sem, reduceIte, reduceCtorEq, n1, n2, n3, n4, n5, n6, AskT.row])
        · intro hlt2
          (repeat' (first | (refine dw_seq ?_) | (refine dw_block ?_) | ((first | (refine dw_reg (N := 118) rfl (by kernel_rfl) ?_) | (apply dw_drw (id := 14) (N := 118) [(0, .light), (1, .light), (2, .light), (3, .light), (4, .light), (5, .light), (6, .light), (7, .light), (8, .light), (9, .light), (10, .light), (11, .light), (12, .light), (13, .light), (14, .light), (15, .light), (16, .light), (17, .light), (18, .light), (19, .light), (20, .light), (21, .light)]; kernel_rfl; rfl; kernel_rfl; (repeat (first | exact Picks.nil | (apply Picks.cons; rfl)))) | (refine dw_skip ?_) | (refine dw_exit ?_) | (refine CallC.mk (awake_D) (LeL.of_eq rfl) ?_) | (refine CallC.light (awake_D) (LeL.of_eq rfl) ?_) | (refine dw_ret ?_)); simp (decide := true) only [go_sem, reduceIte, reduceCtorEq, n1, n2, n3, n4, n5, n6, hlt2]) | (apply dw_cond; (simp (decide := true) only [go_sem, reduceIte, reduceCtorEq, n1, n2, n3, n4, n5, n6, hlt2]; rfl); all_goals (intro hcnd; first | (exact absurd hcnd (by decide)) | skip)) | ((first | refine guardC_f ?_ ?_ | refine guardC_t ?_ ?_) <;> (intro hcnd; simp (decide := true) only [go_sem, reduceIte, reduceCtorEq, n1, n2, n3, n4, n5, n6, hcnd, hlt2]))))
      · rw [u0 hu] at h5
        (repeat' (first | (refine dw_seq ?_) | (refine dw_block ?_) | ((first | (refine dw_reg (N := 118) rfl (by kernel_rfl) ?_) | (apply dw_drw (id := 14) (N := 118) [(0, .light), (1, .light), (2, .light), (3, .light), (4, .light), (5, .light), (6, .light), (7, .light), (8, .light), (9, .light), (10, .light), (11, .light), (12, .light), (13, .light), (14, .light), (15, .light), (16, .light), (17, .light), (18, .light), (19, .light), (20, .light), (21, .light)]; kernel_rfl; rfl; kernel_rfl; (repeat (first | exact Picks.nil | (apply Picks.cons; rfl)))) | (refine dw_skip ?_) | (refine dw_exit ?_) | (refine CallC.mk (hF) (LeL.of_eq rfl) ?_) | (refine CallC.light (hF) (LeL.of_eq rfl) ?_) | (refine CallC.mk (hC) (LeL.of_eq rfl) ?_) | (refine CallC.light (hC) (LeL.of_eq rfl) ?_) | (refine CallC.mk (h1) (LeL.of_eq rfl) ?_) | (refine CallC.light (h1) (LeL.of_eq rfl) ?_) | (refine CallC.mk (h2) (LeL.of_eq rfl) ?_) | (refine CallC.light (h2) (LeL.of_eq rfl) ?_) | (refine CallC.mk (h3) (LeL.of_eq rfl) ?_) | (refine CallC.light (h3) (LeL.of_eq rfl) ?_) | (refine CallC.mk (h4) (LeL.of_eq rfl) ?_) | (refine CallC.light (h4) (LeL.of_eq rfl) ?_) | (refine CallC.mk (h5) (LeL.of_eq rfl) ?_) | (refine CallC.light (h5) (LeL.of_eq rfl) ?_) | (refine CallC.mk (awake_D) (LeL.of_eq rfl) ?_) | (refine CallC.light (awake_D) (LeL.of_eq rfl) ?_) | (refine dw_ret ?_)); simp (decide := true) only [go_sem, reduceIte, reduceCtorEq, n1, n2, n3, n4, n5, n6, hc, hk, hu, hcl, hll, h00, AskT.row]) | (apply dw_cond; (simp (decide := true) only [go_sem, reduceIte, reduceCtorEq, n1, n2, n3, n4, n5, n6, hc, hk, hu, hcl, hll, h00, AskT.row]; rfl); all_goals (intro hcnd; first | (exact absurd hcnd (by decide)) | skip)) | ((first | refine guardC_f ?_ ?_ | refine guardC_t ?_ ?_) <;> (intro hcnd; simp (decide := true) only [go_sem, reduceIte, reduceCtorEq, n1, n2, n3, n4, n5, n6, hcnd, hc, hk, hu, hcl, hll, h00, AskT.row]))))
        refine dw_rng0 c (fun k => kn 118 [(1, .one (.bx 1 4 0 0)), (7, dv (.sl 8 (c.map Ent.enc))), (8, dv (li k))] (ml [(1, [a.row])])) (by omega) (sub_ml rfl (by simp (decide := true) only [go_sem, reduceIte, reduceCtorEq, n1, n2, n3, n4, n5, n6]) (by simp (decide := true) only [go_sem, reduceIte, reduceCtorEq, n1, n2, n3, n4, n5, n6, AskT.row])) ?_ ?_
        · intro k e he hk hm htk hlt hw
          have hel := hml e hm
          (repeat' (first | (refine dw_seq ?_) | (refine dw_block ?_) | ((first | (refine dw_reg (N := 118) rfl (by kernel_rfl) ?_) | (apply dw_drw (id := 14) (N := 118) [(0, .light), (1, .light), (2, .light), (3, .light), (4, .light), (5, .light), (6, .light), (7, .light), (8, .light), (9, .light), (10, .light), (11, .light), (12, .light), (13, .light), (14, .light), (15, .light), (16, .light), (17, .light), (18, .light), (19, .light), (20, .light), (21, .light)]; kernel_rfl; rfl; kernel_rfl; (repeat (first | exact Picks.nil | (apply Picks.cons; rfl)))) | (refine dw_skip ?_) | (refine dw_exit ?_)); simp (decide := true) only [go_sem, reduceIte, reduceCtorEq, n1, n2, n3, n4, n5, n6, hlt, hw, he, Ent.enc]) | (apply dw_cond; (simp (decide := true) only [go_sem, reduceIte, reduceCtorEq, n1, n2, n3, n4, n5, n6, hlt, hw, he, Ent.enc]; rfl); all_goals (intro hcnd; first | (exact absurd hcnd (by decide)) | skip)) | ((first | refine guardC_f ?_ ?_ | refine guardC_t ?_ ?_) <;> (intro hcnd; simp (decide := true) only [go_sem, reduceIte, reduceCtorEq, n1, n2, n3, n4, n5, n6, hcnd, hlt, hw, he, Ent.enc]))))
          refine dw_rng0 e.links (fun m => kn 118 [(1, .one (.bx 1 4 0 0)), (7, dv (.sl 8 (c.map Ent.enc))), (8, dv (li k)), (9, dv (li m))] (ml [(1, [a.row])])) (by omega) (sub_ml rfl (by simp (decide := true) only [go_sem, reduceIte, reduceCtorEq, n1, n2, n3, n4, n5, n6]) (by simp (decide := true) only [go_sem, reduceIte, reduceCtorEq, n1, n2, n3, n4, n5, n6, AskT.row])) ?_ ?_
          · intro m x hx hmk hmm htm hlt2 hw2
            obtain ⟨y1, y2⟩ := key e hm x hmm
            (repeat' (first | (refine dw_seq ?_) | (refine dw_block ?_) | ((first | (refine dw_reg (N := 118) rfl (by kernel_rfl) ?_) | (apply dw_drw (id := 14) (N := 118) [(0, .light), (1, .light), (2, .light), (3, .light), (4, .light), (5, .light), (6, .light), (7, .light), (8, .light), (9, .light), (10, .light), (11, .light), (12, .light), (13, .light), (14, .light), (15, .light), (16, .light), (17, .light), (18, .light), (19, .light), (20, .light), (21, .light)]; kernel_rfl; rfl; kernel_rfl; (repeat (first | exact Picks.nil | (apply Picks.cons; rfl)))) | (refine dw_skip ?_) | (refine dw_exit ?_) | (refine dw_ret ?_)); simp (decide := true) only [go_sem, reduceIte, reduceCtorEq, n1, n2, n3, n4, n5, n6, hlt2, hw2, he, hx, y1, y2, Ent.enc, Lnk.enc, AskT.row]) | (apply dw_cond; (simp (decide := true) only [go_sem, reduceIte, reduceCtorEq, n1, n2, n3, n4, n5, n6, hlt2, hw2, he, hx, y1, y2, Ent.enc, Lnk.enc, AskT.row]; rfl); all_goals (intro hcnd; first | (exact absurd hcnd (by decide)) | skip)) | ((first | refine guardC_f ?_ ?_ | refine guardC_t ?_ ?_) <;> (intro hcnd; simp (decide := true) only [go_sem, reduceIte, reduceCtorEq, n1, n2, n3, n4, n5, n6, hcnd, hlt2, hw2, he, hx, y1, y2, Ent.enc, Lnk.enc, AskT.row]))))
            exact sub_ml rfl (by simp (decide := true) only [go_sem, reduceIte, reduceCtorEq, n1, n2, n3, n4, n5, n6]) (by simp (decide := true) only [go_sem, reduceIte, reduceCtorEq, n1, n2, n3, n4, n5, n6, AskT.row])
          · intro hlt2
            (repeat' (first | (refine dw_seq ?_) | (refine dw_block ?_) | ((first | (refine dw_reg (N := 118) rfl (by kernel_rfl) ?_) | (apply dw_drw (id := 14) (N := 118) [(0, .light), (1, .light), (2, .light), (3, .light), (4, .light), (5, .light), (6, .light), (7, .light), (8, .light), (9, .light), (10, .light), (11, .light), (12, .light), (13, .light), (14, .light), (15, .light), (16, .light), (17, .light), (18, .light), (19, .light), (20, .light), (21, .light)]; kernel_rfl; rfl; kernel_rfl; (repeat (first | exact Picks.nil | (apply Picks.cons; rfl)))) | (refine dw_skip ?_) | (refine dw_exit ?_)); simp (decide := true) only [go_sem, reduceIte, reduceCtorEq, n1, n2, n3, n4, n5, n6, hlt2, hw, he, Ent.enc]) | (apply dw_cond; (simp (decide := true) only [go_sem, reduceIte, reduceCtorEq, n1, n2, n3, n4, n5, n6, hlt2, hw, he, Ent.enc]; rfl); all_goals (intro hcnd; first | (exact absurd hcnd (by decide)) | skip)) | ((first | refine guardC_f ?_ ?_ | refine guardC_t ?_ ?_) <;> (intro hcnd; simp (decide := true) only [go_sem, reduceIte, reduceCtorEq, n1, n2, n3, n4, n5, n6, hcnd, hlt2, hw, he, Ent.enc]))))
            exact sub_ml rfl (by simp (decide := true) only [go_sem, reduceIte, reduceCtorEq, n1, n2, n3, n4, n5, n6]) (by simp (decide := true) only [go_sem, reduceIte, reduceCtorEq, n1, n2, n3, n4, n5, n6, AskT.row])
        · intro hlt2
          (repeat' (first | (refine dw_seq ?_) | (refine dw_block ?_) | ((first | (refine dw_reg (N := 118) rfl (by kernel_rfl) ?_) | (apply dw_drw (id := 14) (N := 118) [(0, .light), (1, .light), (2, .light), (3, .light), (4, .light), (5, .light), (6, .light), (7, .light), (8, .light), (9, .light), (10, .light), (11, .light), (12, .light), (13, .light), (14, .light), (15, .light), (16, .light), (17, .light), (18, .light), (19, .light), (20, .light), (21, .light)]; kernel_rfl; rfl; kernel_rfl; (repeat (first | exact Picks.nil | (apply Picks.cons; rfl)))) | (refine dw_skip ?_) | (refine dw_exit ?_) | (refine CallC.mk (awake_D) (LeL.of_eq rfl) ?_) | (refine CallC.light (awake_D) (LeL.of_eq rfl) ?_) | (refine dw_ret ?_)); simp (decide := true) only [go_sem, reduceIte, reduceCtorEq, n1, n2, n3, n4, n5, n6, hlt2]) | (apply dw_cond; (simp (decide := true) only [go_sem, reduceIte, reduceCtorEq, n1, n2, n3, n4, n5, n6, hlt2]; rfl); all_goals (intro hcnd; first | (exact absurd hcnd (by decide)) | skip)) | ((first | refine guardC_f ?_ ?_ | refine guardC_t ?_ ?_) <;> (intro hcnd; simp (decide := true) only [go_sem, reduceIte, reduceCtorEq, n1, n2, n3, n4, n5, n6, hcnd, hlt2]))))
    · have h6 := k0 hk
      cases hu : (unlinkK a.l a.p a.q a.r).2 == 0
      · (repeat' (first | (refine dw_seq ?_) | (refine dw_block ?_) | ((first | (refine dw_reg (N := 118) rfl (by kernel_rfl) ?_) | (apply dw_drw (id := 14) (N := 118) [(0, .light), (1, .light), (2, .light), (3, .light), (4, .light), (5, .light), (6, .light), (7, .light), (8, .light), (9, .light), (10, .light), (11, .light), (12, .light), (13, .light), (14, .light), (15, .light), (16, .light), (17, .light), (18, .light), (19, .light), (20, .light), (21, .light)]; kernel_rfl; rfl; kernel_rfl; (repeat (first | exact Picks.nil | (apply Picks.cons; rfl)))) | (refine dw_skip ?_) | (refine dw_exit ?_) | (refine CallC.mk (hF) (LeL.of_eq rfl) ?_) | (refine CallC.light (hF) (LeL.of_eq rfl) ?_) | (refine CallC.mk (hC) (LeL.of_eq rfl) ?_) | (refine CallC.light (hC) (LeL.of_eq rfl) ?_) | (refine CallC.mk (h1) (LeL.of_eq rfl) ?_) | (refine CallC.light (h1) (LeL.of_eq rfl) ?_) | (refine CallC.mk (h2) (LeL.of_eq rfl) ?_) | (refine CallC.light (h2) (LeL.of_eq rfl) ?_) | (refine CallC.mk (h3) (LeL.of_eq rfl) ?_) | (refine CallC.light (h3) (LeL.of_eq rfl) ?_) | (refine CallC.mk (h4) (LeL.of_eq rfl) ?_) | (refine CallC.light (h4) (LeL.of_eq rfl) ?_) | (refine CallC.mk (h6) (LeL.of_eq rfl) ?_) | (refine CallC.light (h6) (LeL.of_eq rfl) ?_) | (refine CallC.mk (awake_D) (LeL.of_eq rfl) ?_) | (refine CallC.light (awake_D) (LeL.of_eq rfl) ?_) | (refine dw_ret ?_)); simp (decide := true) only [go_sem, reduceIte, reduceCtorEq, n1, n2, n3, n4, n5, n6, hc, hk, hu, hcl, hll, h00, AskT.row]) | (apply dw_cond; (simp (decide := true) only [go_sem, reduceIte, reduceCtorEq, n1, n2, n3, n4, n5, n6, hc, hk, hu, hcl, hll, h00, AskT.row]; rfl); all_goals (intro hcnd; first | (exact absurd hcnd (by decide)) | skip)) | ((first | refine guardC_f ?_ ?_ | refine guardC_t ?_ ?_) <;> (intro hcnd; simp (decide := true) only [go_sem, reduceIte, reduceCtorEq, n1, n2, n3, n4, n5, n6, hcnd, hc, hk, hu, hcl, hll, h00, AskT.row]))))
        refine dw_rng0 c (fun k => kn 118 [(1, .one (.bx 1 4 0 0)), (7, dv (.sl 8 (c.map Ent.enc))), (8, dv (li k))] (ml [(1, [a.row])])) (by omega) (sub_ml rfl (by simp (decide := true) only [go_sem, reduceIte, reduceCtorEq, n1, n2, n3, n4, n5, n6]) (by simp (decide := true) only [go_sem, reduceIte, reduceCtorEq, n1, n2, n3, n4, n5, n6, AskT.row])) ?_ ?_
        · intro k e he hk hm htk hlt hw
          have hel := hml e hm
          (repeat' (first | (refine dw_seq ?_) | (refine dw_block ?_) | ((first | (refine dw_reg (N := 118) rfl (by kernel_rfl) ?_) | (apply dw_drw (id := 14) (N := 118) [(0, .light), (1, .light), (2, .light), (3, .light), (4, .light), (5, .light), (6, .light), (7, .light), (8, .light), (9, .light), (10, .light), (11, .light), (12, .light), (13, .light), (14, .light), (15, .light), (16, .light), (17, .light), (18, .light), (19, .light), (20, .light), (21, .light)]; kernel_rfl; rfl; kernel_rfl; (repeat (first | exact Picks.nil | (apply Picks.cons; rfl)))) | (refine dw_skip ?_) | (refine dw_exit ?_)); simp (decide := true) only [go_sem, reduceIte, reduceCtorEq, n1, n2, n3, n4, n5, n6, hlt, hw, he, Ent.enc]) | (apply dw_cond; (simp (decide := true) only [go_sem, reduceIte, reduceCtorEq, n1, n2, n3, n4, n5, n6, hlt, hw, he, Ent.enc]; rfl); all_goals (intro hcnd; first | (exact absurd hcnd (by decide)) | skip)) | ((first | refine guardC_f ?_ ?_ | refine guardC_t ?_ ?_) <;> (intro hcnd; simp (decide := true) only [go_sem, reduceIte, reduceCtorEq, n1, n2, n3, n4, n5, n6, hcnd, hlt, hw, he, Ent.enc]))))
          refine dw_rng0 e.links (fun m => kn 118 [(1, .one (.bx 1 4 0 0)), (7, dv (.sl 8 (c.map Ent.enc))), (8, dv (li k)), (9, dv (li m))] (ml [(1, [a.row])])) (by omega) (sub_ml rfl (by simp (decide := true) only [go_sem, reduceIte, reduceCtorEq, n1, n2, n3, n4, n5, n6]) (by simp (decide := true) only [go_sem, reduceIte, reduceCtorEq, n1, n2, n3, n4, n5, n6, AskT.row])) ?_ ?_
          · intro m x hx hmk hmm htm hlt2 hw2
            obtain ⟨y1, y2⟩ := key e hm x hmm
            (repeat' (first | (refine dw_seq ?_) | (refine dw_block ?_) | ((first | (refine dw_reg (N := 118) rfl (by kernel_rfl) ?_) | (apply dw_drw (id := 14) (N := 118) [(0, .light), (1, .light), (2, .light), (3, .light), (4, .light), (5, .light), (6, .light), (7, .light), (8, .light), (9, .light), (10, .light), (11, .light), (12, .light), (13, .light), (14, .light), (15, .light), (16, .light), (17, .light), (18, .light), (19, .light), (20, .light), (21, .light)]; kernel_rfl; rfl; kernel_rfl; (repeat (first | exact Picks.nil | (apply Picks.cons; rfl)))) | (refine dw_skip ?_) | (refine dw_exit ?_) | (refine dw_ret ?_)); simp (decide := true) only [go_sem, reduceIte, reduceCtorEq, n1, n2, n3, n4, n5, n6, hlt2, hw2, he, hx, y1, y2, Ent.enc, Lnk.enc, AskT.row]) | (apply dw_cond; (simp (decide := true) only [go_sem, reduceIte, reduceCtorEq, n1, n2, n3, n4, n5, n6, hlt2, hw2, he, hx, y1, y2, Ent.enc, Lnk.enc, AskT.row]; rfl); all_goals (intro hcnd; first | (exact absurd hcnd (by decide)) | skip)) | ((first | refine guardC_f ?_ ?_ | refine guardC_t ?_ ?_) <;> (intro hcnd; simp (decide := true) only [go_sem, reduceIte, reduceCtorEq, n1, n2, n3, n4, n5, n6, hcnd, hlt2, hw2, he, hx, y1, y2, Ent.enc, Lnk.enc, AskT.row]))))
            exact sub_ml rfl (by simp (decide := true) only [go_sem, reduceIte, reduceCtorEq, n1, n2, n3, n4, n5, n6]) (by simp (decide := true) only [go_sem, reduceIte, reduceCtorEq, n1, n2, n3, n4, n5, n6, AskT.row])
          · intro hlt2
            (repeat' (first | (refine dw_seq ?_) | (refine dw_block ?_) | ((first | (refine dw_reg (N := 118) rfl (by kernel_rfl) ?_) | (apply dw_drw (id := 14) (N := 118) [(0, .light), (1, .light), (2, .light), (3, .light), (4, .light), (5, .light), (6, .light), (7, .light), (8, .light), (9, .light), (10, .light), (11, .light), (12, .light), (13, .light), (14, .light), (15, .light), (16, .light), (17, .light), (18, .light), (19, .light), (20, .light), (21, .light)]; kernel_rfl; rfl; kernel_rfl; (repeat (first | exact Picks.nil | (apply Picks.cons; rfl)))) | (refine dw_skip ?_) | (refine dw_exit ?_)); simp (decide := true) only [go_sem, reduceIte, reduceCtorEq, n1, n2, n3, n4, n5, n6, hlt2, hw, he, Ent.enc]) | (apply dw_cond; (simp (decide := true) only [go_sem, reduceIte, reduceCtorEq, n1, n2, n3, n4, n5, n6, hlt2, hw, he, Ent.enc]; rfl); all_goals (intro hcnd; first | (exact absurd hcnd (by decide)) | skip)) | ((first | refine guardC_f ?_ ?_ | refine guardC_t ?_ ?_) <;> (intro hcnd; simp (decide := true) only [go_sem, reduceIte, reduceCtorEq, n1, n2, n3, n4, n5, n6, hcnd, hlt2, hw, he, Ent.enc]))))
            exact sub_ml rfl (by simp (decide := true) only [go_sem, reduceIte, reduceCtorEq, n1, n2, n3, n4, n5, n6]) (by simp (decide := true) only [go_sem, reduceIte, reduceCtorEq, n1, n2, n3, n4, n5, n6, AskT.row])
        · intro hlt2
          (repeat' (first | (refine dw_seq ?_) | (refine dw_block ?_) | ((first | (refine dw_reg (N := 118) rfl (by kernel_rfl) ?_) | (apply dw_drw (id := 14) (N := 118) [(0, .light), (1, .light), (2, .light), (3, .light), (4, .light), (5, .light), (6, .light), (7, .light), (8, .light), (9, .light), (10, .light), (11, .light), (12, .light), (13, .light), (14, .light), (15, .light), (16, .light), (17, .light), (18, .light), (19, .light), (20, .light), (21, .light)]; kernel_rfl; rfl; kernel_rfl; (repeat (first | exact Picks.nil | (apply Picks.cons; rfl)))) | (refine dw_skip ?_) | (refine dw_exit ?_) | (refine CallC.mk (awake_D) (LeL.of_eq rfl) ?_) | (refine CallC.light (awake_D) (LeL.of_eq rfl) ?_) | (refine dw_ret ?_)); simp (decide := true) only [go_sem, reduceIte, reduceCtorEq, n1, n2, n3, n4, n5, n6, hlt2]) | (apply dw_cond; (simp (decide := true) only [go_sem, reduceIte, reduceCtorEq, n1, n2, n3, n4, n5, n6, hlt2]; rfl); all_goals (intro hcnd; first | (exact absurd hcnd (by decide)) | skip)) | ((first | refine guardC_f ?_ ?_ | refine guardC_t ?_ ?_) <;> (intro hcnd; simp (decide := true) only [go_sem, reduceIte, reduceCtorEq, n1, n2, n3, n4, n5, n6, hcnd, hlt2]))))
      · rw [u0 hu] at h5
        (repeat' (first | (refine dw_seq ?_) | (refine dw_block ?_) | ((first | (refine dw_reg (N := 118) rfl (by kernel_rfl) ?_) | (apply dw_drw (id := 14) (N := 118) [(0, .light), (1, .light), (2, .light), (3, .light), (4, .light), (5, .light), (6, .light), (7, .light), (8, .light), (9, .light), (10, .light), (11, .light), (12, .light), (13, .light), (14, .light), (15, .light), (16, .light), (17, .light), (18, .light), (19, .light), (20, .light), (21, .light)]; kernel_rfl; rfl; kernel_rfl; (repeat (first | exact Picks.nil | (apply Picks.cons; rfl)))) | (refine dw_skip ?_) | (refine dw_exit ?_) | (refine CallC.mk (hF) (LeL.of_eq rfl) ?_) | (refine CallC.light (hF) (LeL.of_eq rfl) ?_) | (refine CallC.mk (hC) (LeL.of_eq rfl) ?_) | (refine CallC.light (hC) (LeL.of_eq rfl) ?_) | (refine CallC.mk (h1) (LeL.of_eq rfl) ?_) | (refine CallC.light (h1) (LeL.of_eq rfl) ?_) | (refine CallC.mk (h2) (LeL.of_eq rfl) ?_) | (refine CallC.light (h2) (LeL.of_eq rfl) ?_) | (refine CallC.mk (h3) (LeL.of_eq rfl) ?_) | (refine CallC.light (h3) (LeL.of_eq rfl) ?_) | (refine CallC.mk (h4) (LeL.of_eq rfl) ?_) | (refine CallC.light (h4) (LeL.of_eq rfl) ?_) | (refine CallC.mk (h5) (LeL.of_eq rfl) ?_) | (refine CallC.light (h5) (LeL.of_eq rfl) ?_) | (refine CallC.mk (h6) (LeL.of_eq rfl) ?_) | (refine CallC.light (h6) (LeL.of_eq rfl) ?_) | (refine CallC.mk (awake_D) (LeL.of_eq rfl) ?_) | (refine CallC.light (awake_D) (LeL.of_eq rfl) ?_) | (refine dw_ret ?_)); simp (decide := true) only [go_sem, reduceIte, reduceCtorEq, n1, n2, n3, n4, n5, n6, hc, hk, hu, hcl, hll, h00, AskT.row]) | (apply dw_cond; (simp (decide := true) only [go_sem, reduceIte, reduceCtorEq, n1, n2, n3, n4, n5, n6, hc, hk, hu, hcl, hll, h00, AskT.row]; rfl); all_goals (intro hcnd; first | (exact absurd hcnd (by decide)) | skip)) | ((first | refine guardC_f ?_ ?_ | refine guardC_t ?_ ?_) <;> (intro hcnd; simp (decide := true) only [go_sem, reduceIte, reduceCtorEq, n1, n2, n3, n4, n5, n6, hcnd, hc, hk, hu, hcl, hll, h00, AskT.row]))))
        refine dw_rng0 c (fun k => kn 118 [(1, .one (.bx 1 4 0 0)), (7, dv (.sl 8 (c.map Ent.enc))), (8, dv (li k))] (ml [(1, [a.row])])) (by omega) (sub_ml rfl (by simp (decide := true) only [go_sem, reduceIte, reduceCtorEq, n1, n2, n3, n4, n5, n6]) (by simp (decide := true) only [go_sem, reduceIte, reduceCtorEq, n1, n2, n3, n4, n5, n6, AskT.row])) ?_ ?_
        · intro k e he hk hm htk hlt hw
          have hel := hml e hm
          (repeat' (first | (refine dw_seq ?_) | (refine dw_block ?_) | ((first | (refine dw_reg (N := 118) rfl (by kernel_rfl) ?_) | (apply dw_drw (id := 14) (N := 118) [(0, .light), (1, .light), (2, .light), (3, .light), (4, .light), (5, .light), (6, .light), (7, .light), (8, .light), (9, .light), (10, .light), (11, .light), (12, .light), (13, .light), (14, .light), (15, .light), (16, .light), (17, .light), (18, .light), (19, .light), (20, .light), (21, .light)]; kernel_rfl; rfl; kernel_rfl; (repeat (first | exact Picks.nil | (apply Picks.cons; rfl)))) | (refine dw_skip ?_) | (refine dw_exit ?_)); simp (decide := true) only [go_sem, reduceIte, reduceCtorEq, n1, n2, n3, n4, n5, n6, hlt, hw, he, Ent.enc]) | (apply dw_cond; (simp (decide := true) only [go_sem, reduceIte, reduceCtorEq, n1, n2, n3, n4, n5, n6, hlt, hw, he, Ent.enc]; rfl); all_goals (intro hcnd; first | (exact absurd hcnd (by decide)) | skip)) | ((first | refine guardC_f ?_ ?_ | refine guardC_t ?_ ?_) <;> (intro hcnd; simp (decide := true) only [go_sem, reduceIte, reduceCtorEq, n1, n2, n3, n4, n5, n6, hcnd, hlt, hw, he, Ent.enc]))))
          refine dw_rng0 e.links (fun m => kn 118 [(1, .one (.bx 1 4 0 0)), (7, dv (.sl 8 (c.map Ent.enc))), (8, dv (li k)), (9, dv (li m))] (ml [(1, [a.row])])) (by omega) (sub_ml rfl (by simp (decide := true) only [go_sem, reduceIte, reduceCtorEq, n1, n2, n3, n4, n5, n6]) (by simp (decide := true) only [go_sem, reduceIte, reduceCtorEq, n1, n2, n3, n4, n5, n6, AskT.row])) ?_ ?_
          · intro m x hx hmk hmm htm hlt2 hw2
            obtain ⟨y1, y2⟩ := key e hm x hmm
            (repeat' (first | (refine dw_seq ?_) | (refine dw_block ?_) | ((first | (refine dw_reg (N := 118) rfl (by kernel_rfl) ?_) | (apply dw_drw (id := 14) (N := 118) [(0, .light), (1, .light), (2, .light), (3, .light), (4, .light), (5, .light), (6, .light), (7, .light), (8, .light), (9, .light), (10, .light), (11, .light), (12, .light), (13, .light), (14, .light), (15, .light), (16, .light), (17, .light), (18, .light), (19, .light), (20, .light), (21, .light)]; kernel_rfl; rfl; kernel_rfl; (repeat (first | exact Picks.nil | (apply Picks.cons; rfl)))) | (refine dw_skip ?_) | (refine dw_exit ?_) | (refine dw_ret ?_)); simp (decide := true) only [go_sem, reduceIte, reduceCtorEq, n1, n2, n3, n4, n5, n6, hlt2, hw2, he, hx, y1, y2, Ent.enc, Lnk.enc, AskT.row]) | (apply dw_cond; (simp (decide := true) only [go_sem, reduceIte, reduceCtorEq, n1, n2, n3, n4, n5, n6, hlt2, hw2, he, hx, y1, y2, Ent.enc, Lnk.enc, AskT.row]; rfl); all_goals (intro hcnd; first | (exact absurd hcnd (by decide)) | skip)) | ((first | refine guardC_f ?_ ?_ | refine guardC_t ?_ ?_) <;> (intro hcnd; simp (decide := true) only [go_sem, reduceIte, reduceCtorEq, n1, n2, n3, n4, n5, n6, hcnd, hlt2, hw2, he, hx, y1, y2, Ent.enc, Lnk.enc, AskT.row]))))
            exact sub_ml rfl (by simp (decide := true) only [go_sem, reduceIte, reduceCtorEq, n1, n2, n3, n4, n5, n6]) (by simp (decide := true) only [go_sem, reduceIte, reduceCtorEq, n1, n2, n3, n4, n5, n6, AskT.row])
          · intro hlt2
            (repeat' (first | (refine dw_seq ?_) | (refine dw_block ?_) | ((first | (refine dw_reg (N := 118) rfl (by kernel_rfl) ?_) | (apply dw_drw (id := 14) (N := 118) [(0, .light), (1, .light), (2, .light), (3, .light), (4, .light), (5, .light), (6, .light), (7, .light), (8, .light), (9, .light), (10, .light), (11, .light), (12, .light), (13, .light), (14, .light), (15, .light), (16, .light), (17, .light), (18, .light), (19, .light), (20, .light), (21, .light)]; kernel_rfl; rfl; kernel_rfl; (repeat (first | exact Picks.nil | (apply Picks.cons; rfl)))) | (refine dw_skip ?_) | (refine dw_exit ?_)); simp (decide := true) only [go_sem, reduceIte, reduceCtorEq, n1, n2, n3, n4, n5, n6, hlt2, hw, he, Ent.enc]) | (apply dw_cond; (simp (decide := true) only [go_sem, reduceIte, reduceCtorEq, n1, n2, n3, n4, n5, n6, hlt2, hw, he, Ent.enc]; rfl); all_goals (intro hcnd; first | (exact absurd hcnd (by decide)) | skip)) | ((first | refine guardC_f ?_ ?_ | refine guardC_t ?_ ?_) <;> (intro hcnd; simp (decide := true) only [go_sem, reduceIte, reduceCtorEq, n1, n2, n3, n4, n5, n6, hcnd, hlt2, hw, he, Ent.enc]))))
            exact sub_ml rfl (by simp (decide := true) only [go_sem, reduceIte, reduceCtorEq, n1, n2, n3, n4, n5, n6]) (by simp (decide := true) only [go_sem, reduceIte, reduceCtorEq, n1, n2, n3, n4, n5, n6, AskT.row])
        · intro hlt2
          (repeat' (first | (refine dw_seq ?_) | (refine dw_block ?_) | ((first | (refine dw_reg (N := 118) rfl (by kernel_rfl) ?_) | (apply dw_drw (id := 14) (N := 118) [(0, .light), (1, .light), (2, .light), (3, .light), (4, .light), (5, .light), (6, .light), (7, .light), (8, .light), (9, .light), (10, .light), (11, .light), (12, .light), (13, .light), (14, .light), (15, .light), (16, .light), (17, .light), (18, .light), (19, .light), (20, .light), (21, .light)]; kernel_rfl; rfl; kernel_rfl; (repeat (first | exact Picks.nil | (apply Picks.cons; rfl)))) | (refine dw_skip ?_) | (refine dw_exit ?_) | (refine CallC.mk (awake_D) (LeL.of_eq rfl) ?_) | (refine CallC.light (awake_D) (LeL.of_eq rfl) ?_) | (refine dw_ret ?_)); simp (decide := true) only [go_sem, reduceIte, reduceCtorEq, n1, n2, n3, n4, n5, n6, hlt2]) | (apply dw_cond; (simp (decide := true) only [go_sem, reduceIte, reduceCtorEq, n1, n2, n3, n4, n5, n6, hlt2]; rfl); all_goals (intro hcnd; first | (exact absurd hcnd (by decide)) | skip)) | ((first | refine guardC_f ?_ ?_ | refine guardC_t ?_ ?_) <;> (intro hcnd; simp (decide := true) only [go_sem, reduceIte, reduceCtorEq, n1, n2, n3, n4, n5, n6, hcnd, hlt2]))))
  · rw [fewB_f hf] at hF
    (repeat' (first | (refine dw_seq ?_) | (refine dw_block ?_) | ((first | (refine dw_reg (N := 118) rfl (by kernel_rfl) ?_) | (apply dw_drw (id := 14) (N := 118) [(0, .light), (1, .light), (2, .light), (3, .light), (4, .light), (5, .light), (6, .light), (7, .light), (8, .light), (9, .light), (10, .light), (11, .light), (12, .light), (13, .light), (14, .light), (15, .light), (16, .light), (17, .light), (18, .light), (19, .light), (20, .light), (21, .light)]; kernel_rfl; rfl; kernel_rfl; (repeat (first | exact Picks.nil | (apply Picks.cons; rfl)))) | (refine dw_skip ?_) | (refine dw_exit ?_) | (refine CallC.mk (hF) (LeL.of_eq rfl) ?_) | (refine CallC.light (hF) (LeL.of_eq rfl) ?_) | (refine CallC.mk (awake_D) (LeL.of_eq rfl) ?_) | (refine CallC.light (awake_D) (LeL.of_eq rfl) ?_) | (refine dw_ret ?_)); simp (decide := true) only [go_sem, reduceIte, reduceCtorEq, n1, n2, n3, n4, n5, n6, AskT.row]) | (apply dw_cond; (simp (decide := true) only [go_sem, reduceIte, reduceCtorEq, n1, n2, n3, n4, n5, n6, AskT.row]; rfl); all_goals (intro hcnd; first | (exact absurd hcnd (by decide)) | skip)) | ((first | refine guardC_f ?_ ?_ | refine guardC_t ?_ ?_) <;> (intro hcnd; simp (decide := true) only [go_sem, reduceIte, reduceCtorEq, n1, n2, n3, n4, n5, n6, hcnd, AskT.row]))))
end Go.Proofs.Ytiecekikcegnmaa

/- Relations of entries: the laws (III). -/
namespace Go.Proofs.Ytiecekikcegnmaa
open Go.Dl
attribute [local irreducible] DW DCalls ECalls wk IW

set_option maxRecDepth 10000 in
set_option maxHeartbeats 8000000 in
--F9
theorem lawBack (a : AskT) : DCalls Try.prog 9 [.agg a.row] (dv (lb true)) := by
  have hmax : maxLen = 9223372036854775807 := rfl
  refine dcalls (N := 130) (rs := [.tmp 2]) (by kernel_rfl) Try.func9 rfl rfl rfl (by simp) ?_
  have hF := few_D a.l
  by_cases hf : Few a.l
  · rw [fewB_t hf] at hF
    have hd := few_distinct hf
    have hlen := hf.len
    have hC := check_D a.l (few_mid hf)
    cases hc : chkF a.l (reachK a.l) != 0
    rotate_left
    · (repeat' (first | (refine dw_seq ?_) | (refine dw_block ?_) | ((first | (refine dw_reg (N := 130) rfl (by kernel_rfl) ?_) | (apply dw_drw (id := 6) (N := 130) [(0, .light), (1, .light), (2, .light), (3, .light), (4, .light), (5, .light), (6, .light), (7, .light), (8, .step), (9, .light), (10, .light), (11, .light), (12, .light), (13, .light)]; kernel_rfl; rfl; kernel_rfl; (repeat (first | exact Picks.nil | (apply Picks.cons; rfl)))) | (refine dw_skip ?_) | (refine dw_exit ?_) | (refine CallC.mk (hF) (LeL.of_eq rfl) ?_) | (refine CallC.light (hF) (LeL.of_eq rfl) ?_) | (refine CallC.mk (hC) (LeL.of_eq rfl) ?_) | (refine CallC.light (hC) (LeL.of_eq rfl) ?_) | (refine CallC.mk (awake_D) (LeL.of_eq rfl) ?_) | (refine CallC.light (awake_D) (LeL.of_eq rfl) ?_) | (refine dw_ret ?_)); simp (decide := true) only [go_sem, reduceIte, reduceCtorEq, n1, n2, n3, n4, n5, n6, hc, AskT.row]) | (apply dw_cond; (simp (decide := true) only [go_sem, reduceIte, reduceCtorEq, n1, n2, n3, n4, n5, n6, hc, AskT.row]; rfl); all_goals (intro hcnd; first | (exact absurd hcnd (by decide)) | skip)) | ((first | refine guardC_f ?_ ?_ | refine guardC_t ?_ ?_) <;> (intro hcnd; simp (decide := true) only [go_sem, reduceIte, reduceCtorEq, n1, n2, n3, n4, n5, n6, hcnd, hc, AskT.row]))))
    have hg := (check_good hd).1 (by simpa using hc)
    have h1 := link_D a.l a.p a.q a.r (few_mid hf)
    have h2 := unlink_D a.l a.p a.q a.r (few_mid hf)
    have hS := same25_D a.l a.l (by omega)
    simp only [decide_true] at hS
    cases hk : (linkK a.l a.p a.q a.r).2 == 0
    · cases hu : (unlinkK a.l a.p a.q a.r).2 == 0
      · (repeat' (first | (refine dw_seq ?_) | (refine dw_block ?_) | ((first | (refine dw_reg (N := 130) rfl (by kernel_rfl) ?_) | (apply dw_drw (id := 6) (N := 130) [(0, .light), (1, .light), (2, .light), (3, .light), (4, .light), (5, .light), (6, .light), (7, .light), (8, .step), (9, .light), (10, .light), (11, .light), (12, .light), (13, .light)]; kernel_rfl; rfl; kernel_rfl; (repeat (first | exact Picks.nil | (apply Picks.cons; rfl)))) | (refine dw_skip ?_) | (refine dw_exit ?_) | (refine CallC.mk (hF) (LeL.of_eq rfl) ?_) | (refine CallC.light (hF) (LeL.of_eq rfl) ?_) | (refine CallC.mk (hC) (LeL.of_eq rfl) ?_) | (refine CallC.light (hC) (LeL.of_eq rfl) ?_) | (refine CallC.mk (h1) (LeL.of_eq rfl) ?_) | (refine CallC.light (h1) (LeL.of_eq rfl) ?_) | (refine CallC.mk (h2) (LeL.of_eq rfl) ?_) | (refine CallC.light (h2) (LeL.of_eq rfl) ?_) | (refine CallC.mk (awake_D) (LeL.of_eq rfl) ?_) | (refine CallC.light (awake_D) (LeL.of_eq rfl) ?_) | (refine dw_ret ?_)); simp (decide := true) only [go_sem, reduceIte, reduceCtorEq, n1, n2, n3, n4, n5, n6, hc, hk, hu, AskT.row]) | (apply dw_cond; (simp (decide := true) only [go_sem, reduceIte, reduceCtorEq, n1, n2, n3, n4, n5, n6, hc, hk, hu, AskT.row]; rfl); all_goals (intro hcnd; first | (exact absurd hcnd (by decide)) | skip)) | ((first | refine guardC_f ?_ ?_ | refine guardC_t ?_ ?_) <;> (intro hcnd; simp (decide := true) only [go_sem, reduceIte, reduceCtorEq, n1, n2, n3, n4, n5, n6, hcnd, hc, hk, hu, AskT.row]))))
      · cases hpr : a.p != a.r
        · (repeat' (first | (refine dw_seq ?_) | (refine dw_block ?_) | ((first | (refine dw_reg (N := 130) rfl (by kernel_rfl) ?_) | (apply dw_drw (id := 6) (N := 130) [(0, .light), (1, .light), (2, .light), (3, .light), (4, .light), (5, .light), (6, .light), (7, .light), (8, .step), (9, .light), (10, .light), (11, .light), (12, .light), (13, .light)]; kernel_rfl; rfl; kernel_rfl; (repeat (first | exact Picks.nil | (apply Picks.cons; rfl)))) | (refine dw_skip ?_) | (refine dw_exit ?_) | (refine CallC.mk (hF) (LeL.of_eq rfl) ?_) | (refine CallC.light (hF) (LeL.of_eq rfl) ?_) | (refine CallC.mk (hC) (LeL.of_eq rfl) ?_) | (refine CallC.light (hC) (LeL.of_eq rfl) ?_) | (refine CallC.mk (h1) (LeL.of_eq rfl) ?_) | (refine CallC.light (h1) (LeL.of_eq rfl) ?_) | (refine CallC.mk (h2) (LeL.of_eq rfl) ?_) | (refine CallC.light (h2) (LeL.of_eq rfl) ?_) | (refine CallC.mk (awake_D) (LeL.of_eq rfl) ?_) | (refine CallC.light (awake_D) (LeL.of_eq rfl) ?_) | (refine dw_ret ?_)); simp (decide := true) only [go_sem, reduceIte, reduceCtorEq, n1, n2, n3, n4, n5, n6, hc, hk, hu, hpr, AskT.row]) | (apply dw_cond; (simp (decide := true) only [go_sem, reduceIte, reduceCtorEq, n1, n2, n3, n4, n5, n6, hc, hk, hu, hpr, AskT.row]; rfl); all_goals (intro hcnd; first | (exact absurd hcnd (by decide)) | skip)) | ((first | refine guardC_f ?_ ?_ | refine guardC_t ?_ ?_) <;> (intro hcnd; simp (decide := true) only [go_sem, reduceIte, reduceCtorEq, n1, n2, n3, n4, n5, n6, hcnd, hc, hk, hu, hpr, AskT.row]))))
        · have hL := link_D (unlinkK a.l a.p a.q a.r).1 a.p a.q a.r (unlink_mid hf _ _ _)
          rcases unlink_link hf hg (p := a.p) (q := a.q) (r := a.r) (by simpa using hpr) (by simpa using hu) with h11 | h0
          · rw [h11] at hL
            have h110 : ((11 : Int) == 0) = false := rfl
            (repeat' (first | (refine dw_seq ?_) | (refine dw_block ?_) | ((first | (refine dw_reg (N := 130) rfl (by kernel_rfl) ?_) | (apply dw_drw (id := 6) (N := 130) [(0, .light), (1, .light), (2, .light), (3, .light), (4, .light), (5, .light), (6, .light), (7, .light), (8, .step), (9, .light), (10, .light), (11, .light), (12, .light), (13, .light)]; kernel_rfl; rfl; kernel_rfl; (repeat (first | exact Picks.nil | (apply Picks.cons; rfl)))) | (refine dw_skip ?_) | (refine dw_exit ?_) | (refine CallC.mk (hF) (LeL.of_eq rfl) ?_) | (refine CallC.light (hF) (LeL.of_eq rfl) ?_) | (refine CallC.mk (hC) (LeL.of_eq rfl) ?_) | (refine CallC.light (hC) (LeL.of_eq rfl) ?_) | (refine CallC.mk (h1) (LeL.of_eq rfl) ?_) | (refine CallC.light (h1) (LeL.of_eq rfl) ?_) | (refine CallC.mk (h2) (LeL.of_eq rfl) ?_) | (refine CallC.light (h2) (LeL.of_eq rfl) ?_) | (refine CallC.mk (hL) (LeL.of_eq rfl) ?_) | (refine CallC.light (hL) (LeL.of_eq rfl) ?_) | (refine CallC.mk (awake_D) (LeL.of_eq rfl) ?_) | (refine CallC.light (awake_D) (LeL.of_eq rfl) ?_) | (refine dw_ret ?_)); simp (decide := true) only [go_sem, reduceIte, reduceCtorEq, n1, n2, n3, n4, n5, n6, hc, hk, hu, hpr, h110, AskT.row]) | (apply dw_cond; (simp (decide := true) only [go_sem, reduceIte, reduceCtorEq, n1, n2, n3, n4, n5, n6, hc, hk, hu, hpr, h110, AskT.row]; rfl); all_goals (intro hcnd; first | (exact absurd hcnd (by decide)) | skip)) | ((first | refine guardC_f ?_ ?_ | refine guardC_t ?_ ?_) <;> (intro hcnd; simp (decide := true) only [go_sem, reduceIte, reduceCtorEq, n1, n2, n3, n4, n5, n6, hcnd, hc, hk, hu, hpr, h110, AskT.row]))))
          · rw [h0] at hL
            (repeat' (first | (refine dw_seq ?_) | (refine dw_block ?_) | ((first | (refine dw_reg (N := 130) rfl (by kernel_rfl) ?_) | (apply dw_drw (id := 6) (N := 130) [(0, .light), (1, .light), (2, .light), (3, .light), (4, .light), (5, .light), (6, .light), (7, .light), (8, .step), (9, .light), (10, .light), (11, .light), (12, .light), (13, .light)]; kernel_rfl; rfl; kernel_rfl; (repeat (first | exact Picks.nil | (apply Picks.cons; rfl)))) | (refine dw_skip ?_) | (refine dw_exit ?_) | (refine CallC.mk (hF) (LeL.of_eq rfl) ?_) | (refine CallC.light (hF) (LeL.of_eq rfl) ?_) | (refine CallC.mk (hC) (LeL.of_eq rfl) ?_) | (refine CallC.light (hC) (LeL.of_eq rfl) ?_) | (refine CallC.mk (h1) (LeL.of_eq rfl) ?_) | (refine CallC.light (h1) (LeL.of_eq rfl) ?_) | (refine CallC.mk (h2) (LeL.of_eq rfl) ?_) | (refine CallC.light (h2) (LeL.of_eq rfl) ?_) | (refine CallC.mk (hL) (LeL.of_eq rfl) ?_) | (refine CallC.light (hL) (LeL.of_eq rfl) ?_) | (refine CallC.mk (hS) (LeL.of_eq rfl) ?_) | (refine CallC.light (hS) (LeL.of_eq rfl) ?_) | (refine CallC.mk (awake_D) (LeL.of_eq rfl) ?_) | (refine CallC.light (awake_D) (LeL.of_eq rfl) ?_) | (refine dw_ret ?_)); simp (decide := true) only [go_sem, reduceIte, reduceCtorEq, n1, n2, n3, n4, n5, n6, hc, hk, hu, hpr, AskT.row]) | (apply dw_cond; (simp (decide := true) only [go_sem, reduceIte, reduceCtorEq, n1, n2, n3, n4, n5, n6, hc, hk, hu, hpr, AskT.row]; rfl); all_goals (intro hcnd; first | (exact absurd hcnd (by decide)) | skip)) | ((first | refine guardC_f ?_ ?_ | refine guardC_t ?_ ?_) <;> (intro hcnd; simp (decide := true) only [go_sem, reduceIte, reduceCtorEq, n1, n2, n3, n4, n5, n6, hcnd, hc, hk, hu, hpr, AskT.row]))))
    · have hk0 : (linkK a.l a.p a.q a.r).2 = 0 := by simpa using hk
      obtain ⟨b1, b2⟩ := link_unlink hd hg hk0
      have h3 := unlink_D (linkK a.l a.p a.q a.r).1 a.p a.q a.r (link_mid hf hk0)
      have h4 := unlink_D (linkK a.l a.p a.q a.r).1 a.r (inv a.q) a.p (link_mid hf hk0)
      rw [b1] at h3
      rw [b2] at h4
      have hI := inverse_D a.q
      (repeat' (first | (refine dw_seq ?_) | (refine dw_block ?_) | ((first | (refine dw_reg (N := 130) rfl (by kernel_rfl) ?_) | (apply dw_drw (id := 6) (N := 130) [(0, .light), (1, .light), (2, .light), (3, .light), (4, .light), (5, .light), (6, .light), (7, .light), (8, .step), (9, .light), (10, .light), (11, .light), (12, .light), (13, .light)]; kernel_rfl; rfl; kernel_rfl; (repeat (first | exact Picks.nil | (apply Picks.cons; rfl)))) | (refine dw_skip ?_) | (refine dw_exit ?_) | (refine CallC.mk (hF) (LeL.of_eq rfl) ?_) | (refine CallC.light (hF) (LeL.of_eq rfl) ?_) | (refine CallC.mk (hC) (LeL.of_eq rfl) ?_) | (refine CallC.light (hC) (LeL.of_eq rfl) ?_) | (refine CallC.mk (h1) (LeL.of_eq rfl) ?_) | (refine CallC.light (h1) (LeL.of_eq rfl) ?_) | (refine CallC.mk (h3) (LeL.of_eq rfl) ?_) | (refine CallC.light (h3) (LeL.of_eq rfl) ?_) | (refine CallC.mk (hI) (LeL.of_eq rfl) ?_) | (refine CallC.light (hI) (LeL.of_eq rfl) ?_) | (refine CallC.mk (h4) (LeL.of_eq rfl) ?_) | (refine CallC.light (h4) (LeL.of_eq rfl) ?_) | (refine CallC.mk (hS) (LeL.of_eq rfl) ?_) | (refine CallC.light (hS) (LeL.of_eq rfl) ?_) | (refine CallC.mk (awake_D) (LeL.of_eq rfl) ?_) | (refine CallC.light (awake_D) (LeL.of_eq rfl) ?_) | (refine dw_ret ?_)); simp (decide := true) only [go_sem, reduceIte, reduceCtorEq, n1, n2, n3, n4, n5, n6, hc, hk, AskT.row]) | (apply dw_cond; (simp (decide := true) only [go_sem, reduceIte, reduceCtorEq, n1, n2, n3, n4, n5, n6, hc, hk, AskT.row]; rfl); all_goals (intro hcnd; first | (exact absurd hcnd (by decide)) | skip)) | ((first | refine guardC_f ?_ ?_ | refine guardC_t ?_ ?_) <;> (intro hcnd; simp (decide := true) only [go_sem, reduceIte, reduceCtorEq, n1, n2, n3, n4, n5, n6, hcnd, hc, hk, AskT.row]))))
  · rw [fewB_f hf] at hF
    (repeat' (first | (refine dw_seq ?_) | (refine dw_block ?_) | ((first | (refine dw_reg (N := 130) rfl (by kernel_rfl) ?_) | (apply dw_drw (id := 6) (N := 130) [(0, .light), (1, .light), (2, .light), (3, .light), (4, .light), (5, .light), (6, .light), (7, .light), (8, .step), (9, .light), (10, .light), (11, .light), (12, .light), (13, .light)]; kernel_rfl; rfl; kernel_rfl; (repeat (first | exact Picks.nil | (apply Picks.cons; rfl)))) | (refine dw_skip ?_) | (refine dw_exit ?_) | (refine CallC.mk (hF) (LeL.of_eq rfl) ?_) | (refine CallC.light (hF) (LeL.of_eq rfl) ?_) | (refine CallC.mk (awake_D) (LeL.of_eq rfl) ?_) | (refine CallC.light (awake_D) (LeL.of_eq rfl) ?_) | (refine dw_ret ?_)); simp (decide := true) only [go_sem, reduceIte, reduceCtorEq, n1, n2, n3, n4, n5, n6, AskT.row]) | (apply dw_cond; (simp (decide := true) only [go_sem, reduceIte, reduceCtorEq, n1, n2, n3, n4, n5, n6, AskT.row]; rfl); all_goals (intro hcnd; first | (exact absurd hcnd (by decide)) | skip)) | ((first | refine guardC_f ?_ ?_ | refine guardC_t ?_ ?_) <;> (intro hcnd; simp (decide := true) only [go_sem, reduceIte, reduceCtorEq, n1, n2, n3, n4, n5, n6, hcnd, AskT.row]))))
end Go.Proofs.Ytiecekikcegnmaa

/- Relations of entries: the laws (IV). -/
namespace Go.Proofs.Ytiecekikcegnmaa
open Go.Dl
attribute [local irreducible] DW DCalls ECalls wk IW

set_option maxRecDepth 10000 in
set_option maxHeartbeats 8000000 in
--F10
theorem lawTree (l : List Ent) (id kind : Int) : DCalls Try.prog 10 [dv (.sl 8 (l.map Ent.enc)), dv (li id), dv (li kind)] (dv (lb true)) := by
  have hmax : maxLen = 9223372036854775807 := rfl
  refine dcalls (N := 69) (rs := [.tmp 6]) (by kernel_rfl) Try.func10 rfl rfl rfl (by simp) ?_
  have hF := few_D l
  by_cases hf : Few l
  · rw [fewB_t hf] at hF
    have hd := few_distinct hf
    have hlen := hf.len
    have hC := check_D l (few_mid hf)
    cases hc : chkF l (reachK l) != 0
    rotate_left
    · (repeat' (first | (refine dw_seq ?_) | (refine dw_block ?_) | ((first | (refine dw_reg (N := 69) rfl (by kernel_rfl) ?_) | (apply dw_drw (id := 15) (N := 69) [(0, .light), (1, .light), (2, .light), (3, .light), (4, .light), (5, .light), (6, .light), (7, .light), (8, .light), (9, .step), (10, .light)]; kernel_rfl; rfl; kernel_rfl; (repeat (first | exact Picks.nil | (apply Picks.cons; rfl)))) | (refine dw_skip ?_) | (refine dw_exit ?_) | (refine CallC.mk (hF) (LeL.of_eq rfl) ?_) | (refine CallC.light (hF) (LeL.of_eq rfl) ?_) | (refine CallC.mk (hC) (LeL.of_eq rfl) ?_) | (refine CallC.light (hC) (LeL.of_eq rfl) ?_) | (refine CallC.mk (awake_D) (LeL.of_eq rfl) ?_) | (refine CallC.light (awake_D) (LeL.of_eq rfl) ?_) | (refine dw_ret ?_)); simp (decide := true) only [go_sem, reduceIte, reduceCtorEq, n1, n2, n3, n4, n5, n6, hc]) | (apply dw_cond; (simp (decide := true) only [go_sem, reduceIte, reduceCtorEq, n1, n2, n3, n4, n5, n6, hc]; rfl); all_goals (intro hcnd; first | (exact absurd hcnd (by decide)) | skip)) | ((first | refine guardC_f ?_ ?_ | refine guardC_t ?_ ?_) <;> (intro hcnd; simp (decide := true) only [go_sem, reduceIte, reduceCtorEq, n1, n2, n3, n4, n5, n6, hcnd, hc]))))
    have hg := (check_good hd).1 (by simpa using hc)
    have hR := fun y k => reach_D l y k (few_mid hf).small
    have hrl := fun y k => reachK_len l y k
    have hA := fun y k z => r1Has_D (reachK l y k) z (by have := hrl y k; omega)
    simp only [any_r] at hA
    have h1 := hR id kind
    have h2 := hA id kind id
    have k1 : decide (2 ≤ kind) = true → decide (id ∈ reachK l id kind) = false := fun hk => by
      simp only [decide_eq_true_eq] at hk
      simp only [decide_eq_false_iff_not, mem_reachK]
      exact hg.ring hd hk
    have k2 : ∀ y ∈ reachK l id kind, ∀ z ∈ reachK l y kind, decide (z ∈ reachK l id kind) = true := fun y hy z hz => by
      rw [mem_reachK] at hy hz
      simp only [decide_eq_true_eq, mem_reachK]
      exact hy.trans hz
    have k3 : ∀ y ∈ reachK l id kind, decide (id ∈ reachK l y (inv kind)) = true := fun y hy => by
      rw [mem_reachK] at hy
      simp only [decide_eq_true_eq, mem_reachK]
      exact hg.rch hd hy
    have hI := inverse_D kind
    have hal := hrl id kind
    obtain ⟨zs, hzs⟩ : ∃ zs, zs = reachK l id kind := ⟨_, rfl⟩
    have hA0 := hA id kind
    simp only [← hzs] at h1 h2 k1 k2 k3 hA0 hal
    cases hk : decide (2 ≤ kind)
    · (repeat' (first | (refine dw_seq ?_) | (refine dw_block ?_) | ((first | (refine dw_reg (N := 69) rfl (by kernel_rfl) ?_) | (apply dw_drw (id := 15) (N := 69) [(0, .light), (1, .light), (2, .light), (3, .light), (4, .light), (5, .light), (6, .light), (7, .light), (8, .light), (9, .step), (10, .light)]; kernel_rfl; rfl; kernel_rfl; (repeat (first | exact Picks.nil | (apply Picks.cons; rfl)))) | (refine dw_skip ?_) | (refine dw_exit ?_) | (refine CallC.mk (hF) (LeL.of_eq rfl) ?_) | (refine CallC.light (hF) (LeL.of_eq rfl) ?_) | (refine CallC.mk (hC) (LeL.of_eq rfl) ?_) | (refine CallC.light (hC) (LeL.of_eq rfl) ?_) | (refine CallC.mk (h1) (LeL.of_eq rfl) ?_) | (refine CallC.light (h1) (LeL.of_eq rfl) ?_) | (refine dw_ret ?_)); simp (decide := true) only [go_sem, reduceIte, reduceCtorEq, n1, n2, n3, n4, n5, n6, hc, hk]) | (apply dw_cond; (simp (decide := true) only [go_sem, reduceIte, reduceCtorEq, n1, n2, n3, n4, n5, n6, hc, hk]; rfl); all_goals (intro hcnd; first | (exact absurd hcnd (by decide)) | skip)) | ((first | refine guardC_f ?_ ?_ | refine guardC_t ?_ ?_) <;> (intro hcnd; simp (decide := true) only [go_sem, reduceIte, reduceCtorEq, n1, n2, n3, n4, n5, n6, hcnd, hc, hk]))))
      refine dw_rng0 zs (fun k => kn 69 [(0, dv (.sl 8 (l.map Ent.enc))), (1, dv (li id)), (2, dv (li kind)), (7, dv (.sl 1 (ints zs))), (8, dv (li k))] noMem) (by omega) (sub_kn rfl (by simp (decide := true) only [go_sem, reduceIte, reduceCtorEq, n1, n2, n3, n4, n5, n6]) (by simp [noMem])) ?_ ?_
      · intro k y hy hk hm htk hlt hw
        have hyx := ints_at hy
        have e1 := hR y kind
        have e2 := hR y (inv kind)
        have e3 := hA y (inv kind) id
        rw [k3 y hm] at e3
        have e4 := k2 y hm
        have hbl := hrl y kind
        obtain ⟨bs, hbs⟩ : ∃ bs, bs = reachK l y kind := ⟨_, rfl⟩
        simp only [← hbs] at e1 e4 hbl
        (repeat' (first | (refine dw_seq ?_) | (refine dw_block ?_) | ((first | (refine dw_reg (N := 69) rfl (by kernel_rfl) ?_) | (apply dw_drw (id := 15) (N := 69) [(0, .light), (1, .light), (2, .light), (3, .light), (4, .light), (5, .light), (6, .light), (7, .light), (8, .light), (9, .step), (10, .light)]; kernel_rfl; rfl; kernel_rfl; (repeat (first | exact Picks.nil | (apply Picks.cons; rfl)))) | (refine dw_skip ?_) | (refine dw_exit ?_) | (refine CallC.mk (e1) (LeL.of_eq rfl) ?_) | (refine CallC.light (e1) (LeL.of_eq rfl) ?_)); simp (decide := true) only [go_sem, reduceIte, reduceCtorEq, n1, n2, n3, n4, n5, n6, hlt, hw, hyx]) | (apply dw_cond; (simp (decide := true) only [go_sem, reduceIte, reduceCtorEq, n1, n2, n3, n4, n5, n6, hlt, hw, hyx]; rfl); all_goals (intro hcnd; first | (exact absurd hcnd (by decide)) | skip)) | ((first | refine guardC_f ?_ ?_ | refine guardC_t ?_ ?_) <;> (intro hcnd; simp (decide := true) only [go_sem, reduceIte, reduceCtorEq, n1, n2, n3, n4, n5, n6, hcnd, hlt, hw, hyx]))))
        refine dw_rng0 bs (fun m => kn 69 [(0, dv (.sl 8 (l.map Ent.enc))), (1, dv (li id)), (2, dv (li kind)), (7, dv (.sl 1 (ints zs))), (8, dv (li k)), (9, dv (.sl 1 (ints bs))), (10, dv (li m))] noMem) (by omega) (sub_kn rfl (by simp (decide := true) only [go_sem, reduceIte, reduceCtorEq, n1, n2, n3, n4, n5, n6]) (by simp [noMem])) ?_ ?_
        · intro m z hz hmk hmm htm hlt2 hw2
          have hzx := ints_at hz
          have e5 := hA0 z
          rw [e4 z hmm] at e5
          (repeat' (first | (refine dw_seq ?_) | (refine dw_block ?_) | ((first | (refine dw_reg (N := 69) rfl (by kernel_rfl) ?_) | (apply dw_drw (id := 15) (N := 69) [(0, .light), (1, .light), (2, .light), (3, .light), (4, .light), (5, .light), (6, .light), (7, .light), (8, .light), (9, .step), (10, .light)]; kernel_rfl; rfl; kernel_rfl; (repeat (first | exact Picks.nil | (apply Picks.cons; rfl)))) | (refine dw_skip ?_) | (refine dw_exit ?_) | (refine CallC.mk (e5) (LeL.of_eq rfl) ?_) | (refine CallC.light (e5) (LeL.of_eq rfl) ?_) | (refine dw_ret ?_)); simp (decide := true) only [go_sem, reduceIte, reduceCtorEq, n1, n2, n3, n4, n5, n6, hlt2, hw2, hzx]) | (apply dw_cond; (simp (decide := true) only [go_sem, reduceIte, reduceCtorEq, n1, n2, n3, n4, n5, n6, hlt2, hw2, hzx]; rfl); all_goals (intro hcnd; first | (exact absurd hcnd (by decide)) | skip)) | ((first | refine guardC_f ?_ ?_ | refine guardC_t ?_ ?_) <;> (intro hcnd; simp (decide := true) only [go_sem, reduceIte, reduceCtorEq, n1, n2, n3, n4, n5, n6, hcnd, hlt2, hw2, hzx]))))
          exact sub_kn rfl (by simp (decide := true) only [go_sem, reduceIte, reduceCtorEq, n1, n2, n3, n4, n5, n6]) (by simp [noMem])
        · intro hlt2
          (repeat' (first | (refine dw_seq ?_) | (refine dw_block ?_) | ((first | (refine dw_reg (N := 69) rfl (by kernel_rfl) ?_) | (apply dw_drw (id := 15) (N := 69) [(0, .light), (1, .light), (2, .light), (3, .light), (4, .light), (5, .light), (6, .light), (7, .light), (8, .light), (9, .step), (10, .light)]; kernel_rfl; rfl; kernel_rfl; (repeat (first | exact Picks.nil | (apply Picks.cons; rfl)))) | (refine dw_skip ?_) | (refine dw_exit ?_) | (refine CallC.mk (hI) (LeL.of_eq rfl) ?_) | (refine CallC.light (hI) (LeL.of_eq rfl) ?_) | (refine CallC.mk (e2) (LeL.of_eq rfl) ?_) | (refine CallC.light (e2) (LeL.of_eq rfl) ?_) | (refine CallC.mk (e3) (LeL.of_eq rfl) ?_) | (refine CallC.light (e3) (LeL.of_eq rfl) ?_) | (refine dw_ret ?_)); simp (decide := true) only [go_sem, reduceIte, reduceCtorEq, n1, n2, n3, n4, n5, n6, hlt2, hw, hyx]) | (apply dw_cond; (simp (decide := true) only [go_sem, reduceIte, reduceCtorEq, n1, n2, n3, n4, n5, n6, hlt2, hw, hyx]; rfl); all_goals (intro hcnd; first | (exact absurd hcnd (by decide)) | skip)) | ((first | refine guardC_f ?_ ?_ | refine guardC_t ?_ ?_) <;> (intro hcnd; simp (decide := true) only [go_sem, reduceIte, reduceCtorEq, n1, n2, n3, n4, n5, n6, hcnd, hlt2, hw, hyx]))))
          exact sub_kn rfl (by simp (decide := true) only [go_sem, reduceIte, reduceCtorEq, n1, n2, n3, n4, n5, n6]) (by simp [noMem])
      · intro hlt2
        (repeat' (first | (refine dw_seq ?_) | (refine dw_block ?_) | ((first | (refine dw_reg (N := 69) rfl (by kernel_rfl) ?_) | (apply dw_drw (id := 15) (N := 69) [(0, .light), (1, .light), (2, .light), (3, .light), (4, .light), (5, .light), (6, .light), (7, .light), (8, .light), (9, .step), (10, .light)]; kernel_rfl; rfl; kernel_rfl; (repeat (first | exact Picks.nil | (apply Picks.cons; rfl)))) | (refine dw_skip ?_) | (refine dw_exit ?_) | (refine CallC.mk (awake_D) (LeL.of_eq rfl) ?_) | (refine CallC.light (awake_D) (LeL.of_eq rfl) ?_) | (refine dw_ret ?_)); simp (decide := true) only [go_sem, reduceIte, reduceCtorEq, n1, n2, n3, n4, n5, n6, hlt2]) | (apply dw_cond; (simp (decide := true) only [go_sem, reduceIte, reduceCtorEq, n1, n2, n3, n4, n5, n6, hlt2]; rfl); all_goals (intro hcnd; first | (exact absurd hcnd (by decide)) | skip)) | ((first | refine guardC_f ?_ ?_ | refine guardC_t ?_ ?_) <;> (intro hcnd; simp (decide := true) only [go_sem, reduceIte, reduceCtorEq, n1, n2, n3, n4, n5, n6, hcnd, hlt2]))))
    · rw [k1 hk] at h2
      (repeat' (first | (refine dw_seq ?_) | (refine dw_block ?_) | ((first | (refine dw_reg (N := 69) rfl (by kernel_rfl) ?_) | (apply dw_drw (id := 15) (N := 69) [(0, .light), (1, .light), (2, .light), (3, .light), (4, .light), (5, .light), (6, .light), (7, .light), (8, .light), (9, .step), (10, .light)]; kernel_rfl; rfl; kernel_rfl; (repeat (first | exact Picks.nil | (apply Picks.cons; rfl)))) | (refine dw_skip ?_) | (refine dw_exit ?_) | (refine CallC.mk (hF) (LeL.of_eq rfl) ?_) | (refine CallC.light (hF) (LeL.of_eq rfl) ?_) | (refine CallC.mk (hC) (LeL.of_eq rfl) ?_) | (refine CallC.light (hC) (LeL.of_eq rfl) ?_) | (refine CallC.mk (h1) (LeL.of_eq rfl) ?_) | (refine CallC.light (h1) (LeL.of_eq rfl) ?_) | (refine CallC.mk (h2) (LeL.of_eq rfl) ?_) | (refine CallC.light (h2) (LeL.of_eq rfl) ?_) | (refine dw_ret ?_)); simp (decide := true) only [go_sem, reduceIte, reduceCtorEq, n1, n2, n3, n4, n5, n6, hc, hk]) | (apply dw_cond; (simp (decide := true) only [go_sem, reduceIte, reduceCtorEq, n1, n2, n3, n4, n5, n6, hc, hk]; rfl); all_goals (intro hcnd; first | (exact absurd hcnd (by decide)) | skip)) | ((first | refine guardC_f ?_ ?_ | refine guardC_t ?_ ?_) <;> (intro hcnd; simp (decide := true) only [go_sem, reduceIte, reduceCtorEq, n1, n2, n3, n4, n5, n6, hcnd, hc, hk]))))
      refine dw_rng0 zs (fun k => kn 69 [(0, dv (.sl 8 (l.map Ent.enc))), (1, dv (li id)), (2, dv (li kind)), (7, dv (.sl 1 (ints zs))), (8, dv (li k))] noMem) (by omega) (sub_kn rfl (by simp (decide := true) only [go_sem, reduceIte, reduceCtorEq, n1, n2, n3, n4, n5, n6]) (by simp [noMem])) ?_ ?_
      · intro k y hy hk hm htk hlt hw
        have hyx := ints_at hy
        have e1 := hR y kind
        have e2 := hR y (inv kind)
        have e3 := hA y (inv kind) id
        rw [k3 y hm] at e3
        have e4 := k2 y hm
        have hbl := hrl y kind
        obtain ⟨bs, hbs⟩ : ∃ bs, bs = reachK l y kind := ⟨_, rfl⟩
        simp only [← hbs] at e1 e4 hbl
        (repeat' (first | (refine dw_seq ?_) | (refine dw_block ?_) | ((first | (refine dw_reg (N := 69) rfl (by kernel_rfl) ?_) | (apply dw_drw (id := 15) (N := 69) [(0, .light), (1, .light), (2, .light), (3, .light), (4, .light), (5, .light), (6, .light), (7, .light), (8, .light), (9, .step), (10, .light)]; kernel_rfl; rfl; kernel_rfl; (repeat (first | exact Picks.nil | (apply Picks.cons; rfl)))) | (refine dw_skip ?_) | (refine dw_exit ?_) | (refine CallC.mk (e1) (LeL.of_eq rfl) ?_) | (refine CallC.light (e1) (LeL.of_eq rfl) ?_)); simp (decide := true) only [go_sem, reduceIte, reduceCtorEq, n1, n2, n3, n4, n5, n6, hlt, hw, hyx]) | (apply dw_cond; (simp (decide := true) only [go_sem, reduceIte, reduceCtorEq, n1, n2, n3, n4, n5, n6, hlt, hw, hyx]; rfl); all_goals (intro hcnd; first | (exact absurd hcnd (by decide)) | skip)) | ((first | refine guardC_f ?_ ?_ | refine guardC_t ?_ ?_) <;> (intro hcnd; simp (decide := true) only [go_sem, reduceIte, reduceCtorEq, n1, n2, n3, n4, n5, n6, hcnd, hlt, hw, hyx]))))
        refine dw_rng0 bs (fun m => kn 69 [(0, dv (.sl 8 (l.map Ent.enc))), (1, dv (li id)), (2, dv (li kind)), (7, dv (.sl 1 (ints zs))), (8, dv (li k)), (9, dv (.sl 1 (ints bs))), (10, dv (li m))] noMem) (by omega) (sub_kn rfl (by simp (decide := true) only [go_sem, reduceIte, reduceCtorEq, n1, n2, n3, n4, n5, n6]) (by simp [noMem])) ?_ ?_
        · intro m z hz hmk hmm htm hlt2 hw2
          have hzx := ints_at hz
          have e5 := hA0 z
          rw [e4 z hmm] at e5
          (repeat' (first | (refine dw_seq ?_) | (refine dw_block ?_) | ((first | (refine dw_reg (N := 69) rfl (by kernel_rfl) ?_) | (apply dw_drw (id := 15) (N := 69) [(0, .light), (1, .light), (2, .light), (3, .light), (4, .light), (5, .light), (6, .light), (7, .light), (8, .light), (9, .step), (10, .light)]; kernel_rfl; rfl; kernel_rfl; (repeat (first | exact Picks.nil | (apply Picks.cons; rfl)))) | (refine dw_skip ?_) | (refine dw_exit ?_) | (refine CallC.mk (e5) (LeL.of_eq rfl) ?_) | (refine CallC.light (e5) (LeL.of_eq rfl) ?_) | (refine dw_ret ?_)); simp (decide := true) only [go_sem, reduceIte, reduceCtorEq, n1, n2, n3, n4, n5, n6, hlt2, hw2, hzx]) | (apply dw_cond; (simp (decide := true) only [go_sem, reduceIte, reduceCtorEq, n1, n2, n3, n4, n5, n6, hlt2, hw2, hzx]; rfl); all_goals (intro hcnd; first | (exact absurd hcnd (by decide)) | skip)) | ((first | refine guardC_f ?_ ?_ | refine guardC_t ?_ ?_) <;> (intro hcnd; simp (decide := true) only [go_sem, reduceIte, reduceCtorEq, n1, n2, n3, n4, n5, n6, hcnd, hlt2, hw2, hzx]))))
          exact sub_kn rfl (by simp (decide := true) only [go_sem, reduceIte, reduceCtorEq, n1, n2, n3, n4, n5, n6]) (by simp [noMem])
        · intro hlt2
          (repeat' (first | (refine dw_seq ?_) | (refine dw_block ?_) | ((first | (refine dw_reg (N := 69) rfl (by kernel_rfl) ?_) | (apply dw_drw (id := 15) (N := 69) [(0, .light), (1, .light), (2, .light), (3, .light), (4, .light), (5, .light), (6, .light), (7, .light), (8, .light), (9, .step), (10, .light)]; kernel_rfl; rfl; kernel_rfl; (repeat (first | exact Picks.nil | (apply Picks.cons; rfl)))) | (refine dw_skip ?_) | (refine dw_exit ?_) | (refine CallC.mk (hI) (LeL.of_eq rfl) ?_) | (refine CallC.light (hI) (LeL.of_eq rfl) ?_) | (refine CallC.mk (e2) (LeL.of_eq rfl) ?_) | (refine CallC.light (e2) (LeL.of_eq rfl) ?_) | (refine CallC.mk (e3) (LeL.of_eq rfl) ?_) | (refine CallC.light (e3) (LeL.of_eq rfl) ?_) | (refine dw_ret ?_)); simp (decide := true) only [go_sem, reduceIte, reduceCtorEq, n1, n2, n3, n4, n5, n6, hlt2, hw, hyx]) | (apply dw_cond; (simp (decide := true) only [go_sem, reduceIte, reduceCtorEq, n1, n2, n3, n4, n5, n6, hlt2, hw, hyx]; rfl); all_goals (intro hcnd; first | (exact absurd hcnd (by decide)) | skip)) | ((first | refine guardC_f ?_ ?_ | refine guardC_t ?_ ?_) <;> (intro hcnd; simp (decide := true) only [go_sem, reduceIte, reduceCtorEq, n1, n2, n3, n4, n5, n6, hcnd, hlt2, hw, hyx]))))
          exact sub_kn rfl (by simp (decide := true) only [go_sem, reduceIte, reduceCtorEq, n1, n2, n3, n4, n5, n6]) (by simp [noMem])
      · intro hlt2
        (repeat' (first | (refine dw_seq ?_) | (refine dw_block ?_) | ((first | (refine dw_reg (N := 69) rfl (by kernel_rfl) ?_) | (apply dw_drw (id := 15) (N := 69) [(0, .light), (1, .light), (2, .light), (3, .light), (4, .light), (5, .light), (6, .light), (7, .light), (8, .light), (9, .step), (10, .light)]; kernel_rfl; rfl; kernel_rfl; (repeat (first | exact Picks.nil | (apply Picks.cons; rfl)))) | (refine dw_skip ?_) | (refine dw_exit ?_) | (refine CallC.mk (awake_D) (LeL.of_eq rfl) ?_) | (refine CallC.light (awake_D) (LeL.of_eq rfl) ?_) | (refine dw_ret ?_)); simp (decide := true) only [go_sem, reduceIte, reduceCtorEq, n1, n2, n3, n4, n5, n6, hlt2]) | (apply dw_cond; (simp (decide := true) only [go_sem, reduceIte, reduceCtorEq, n1, n2, n3, n4, n5, n6, hlt2]; rfl); all_goals (intro hcnd; first | (exact absurd hcnd (by decide)) | skip)) | ((first | refine guardC_f ?_ ?_ | refine guardC_t ?_ ?_) <;> (intro hcnd; simp (decide := true) only [go_sem, reduceIte, reduceCtorEq, n1, n2, n3, n4, n5, n6, hcnd, hlt2]))))
  · rw [fewB_f hf] at hF
    (repeat' (first | (refine dw_seq ?_) | (refine dw_block ?_) | ((first | (refine dw_reg (N := 69) rfl (by kernel_rfl) ?_) | (apply dw_drw (id := 15) (N := 69) [(0, .light), (1, .light), (2, .light), (3, .light), (4, .light), (5, .light), (6, .light), (7, .light), (8, .light), (9, .step), (10, .light)]; kernel_rfl; rfl; kernel_rfl; (repeat (first | exact Picks.nil | (apply Picks.cons; rfl)))) | (refine dw_skip ?_) | (refine dw_exit ?_) | (refine CallC.mk (hF) (LeL.of_eq rfl) ?_) | (refine CallC.light (hF) (LeL.of_eq rfl) ?_) | (refine CallC.mk (awake_D) (LeL.of_eq rfl) ?_) | (refine CallC.light (awake_D) (LeL.of_eq rfl) ?_) | (refine dw_ret ?_)); simp (decide := true) only [go_sem, reduceIte, reduceCtorEq, n1, n2, n3, n4, n5, n6]) | (apply dw_cond; (simp (decide := true) only [go_sem, reduceIte, reduceCtorEq, n1, n2, n3, n4, n5, n6]; rfl); all_goals (intro hcnd; first | (exact absurd hcnd (by decide)) | skip)) | ((first | refine guardC_f ?_ ?_ | refine guardC_t ?_ ?_) <;> (intro hcnd; simp (decide := true) only [go_sem, reduceIte, reduceCtorEq, n1, n2, n3, n4, n5, n6, hcnd]))))
end Go.Proofs.Ytiecekikcegnmaa

/- The statements about relations of entries. For every input the law returns true. -/
namespace Go.Proofs.Ytiecekikcegnmaa
open Go.ChangeShapes Go.WideShapes Go.ChangeAt Go.RowKit
open Go.ChangeMaps (open_string shut_string)
open Go.Dl (Sh Val)

theorem Try.own : ownKnob Try.prog.godebug = none := by kernel_rfl
theorem Try.laidOut : laidOutB Try.prog = true := by kernel_rfl

def shInt : Sh := .int .i64
def shSns : Sh := .cons .str (.cons .str .nil)
def shLnk : Sh := .cons shInt (.cons shInt .nil)
def shAlt : Sh := .sl 1 shInt
def shEnt : Sh := .cons shInt (.cons (.sl 1 shInt) (.cons shInt (.cons (.sl 1 shAlt) (.cons shInt (.cons (.sl 2 shSns) (.cons (.sl 2 shLnk) (.cons (.sl 2 shLnk) .nil)))))))
def shAsk : Sh := .cons (.sl 8 shEnt) (.cons shInt (.cons shInt (.cons shInt .nil)))

def Sns.ofVal (v : Val shSns) : Sns := ⟨v.1, v.2.1⟩
def Lnk.ofVal (v : Val shLnk) : Lnk := ⟨v.1, v.2.1⟩
def altOf (v : Val (.sl 1 shInt)) : List Int := v
def Ent.ofVal (v : Val shEnt) : Ent := ⟨v.1, v.2.1, v.2.2.1, List.map altOf v.2.2.2.1, v.2.2.2.2.1, List.map Sns.ofVal v.2.2.2.2.2.1, List.map Lnk.ofVal v.2.2.2.2.2.2.1, List.map Lnk.ofVal v.2.2.2.2.2.2.2.1⟩
def AskT.ofVal (v : Val shAsk) : AskT := ⟨List.map Ent.ofVal v.1, v.2.1, v.2.2.1, v.2.2.2.1⟩
theorem sns_enc (l : List (Val shSns)) : List.map (Sh.enc shSns) l = (List.map Sns.ofVal l).map Sns.enc := by
  rw [List.map_map]; rfl
theorem lnk_enc (l : List (Val shLnk)) : List.map (Sh.enc shLnk) l = (List.map Lnk.ofVal l).map Lnk.enc := by
  rw [List.map_map]; rfl
theorem alt_enc (l : List (Val (.sl 1 shInt))) : List.map (Sh.enc (.sl 1 shInt)) l = (List.map altOf l).map altC := by
  rw [List.map_map]; rfl
theorem ent1_enc (v : Val shEnt) : Sh.enc shEnt v = Ent.enc (Ent.ofVal v) := by
  have e1 := alt_enc v.2.2.2.1
  have e2 := sns_enc v.2.2.2.2.2.1
  have e3 := lnk_enc v.2.2.2.2.2.2.1
  have e4 := lnk_enc v.2.2.2.2.2.2.2.1
  show [li v.1, .sl 1 (List.map (Sh.enc shInt) v.2.1), li v.2.2.1, .sl 1 (List.map (Sh.enc (.sl 1 shInt)) v.2.2.2.1), li v.2.2.2.2.1, .sl 2 (List.map (Sh.enc shSns) v.2.2.2.2.2.1), .sl 2 (List.map (Sh.enc shLnk) v.2.2.2.2.2.2.1), .sl 2 (List.map (Sh.enc shLnk) v.2.2.2.2.2.2.2.1)] = _
  rw [e1, e2, e3, e4]; rfl
theorem ent_enc (l : List (Val shEnt)) : List.map (Sh.enc shEnt) l = (List.map Ent.ofVal l).map Ent.enc := by
  rw [List.map_map]; exact List.map_congr_left fun v _ => ent1_enc v
theorem intVD {w : World} {E : Go.Dl.Env} {v : Value} (x : Val shInt) (h : Go.Dl.VD w E (Go.Dl.ArgD shInt x) v) : Go.Dl.VD w E (dv (li x)) v := h
theorem entVD {w : World} {E : Go.Dl.Env} {v : Value} (l : List (Val shEnt)) (h : Go.Dl.VD w E (Go.Dl.ArgD (.sl 8 shEnt) l) v) : Go.Dl.VD w E (dv (.sl 8 ((List.map Ent.ofVal l).map Ent.enc))) v := by rw [← ent_enc]; exact h
theorem ask_row (x : Val shAsk) : Go.Dl.ArgD shAsk x = .agg (AskT.ofVal x).row := by
  have e1 := ent_enc x.1
  show Go.Dl.D.agg [.c (.sl 8 (List.map (Sh.enc shEnt) x.1)), .c (li x.2.1), .c (li x.2.2.1), .c (li x.2.2.2.1)] = _
  rw [e1]; rfl
theorem askVD {w : World} {E : Go.Dl.Env} {v : Value} (x : Val shAsk) (h : Go.Dl.VD w E (Go.Dl.ArgD shAsk x) v) : Go.Dl.VD w E (.agg (AskT.ofVal x).row) v := by rw [← ask_row]; exact h

theorem read1 {w : World} {K} {d0 : Go.Dl.D} {v0 : Value} (h0 : Go.Dl.VD w K d0 v0) : ∀ (j : Nat) d v, [d0][j]? = some d → #[v0][j]? = some v → Go.Dl.VD w K d v := fun j d v h1 h2 => by
  match j with
  | 0 => simp at h1 h2; subst h1; subst h2; exact h0
  | j + 1 => simp at h1
theorem read3 {w : World} {K} {d0 d1 d2 : Go.Dl.D} {v0 v1 v2 : Value} (h0 : Go.Dl.VD w K d0 v0) (h1 : Go.Dl.VD w K d1 v1) (h2 : Go.Dl.VD w K d2 v2) : ∀ (j : Nat) d v, [d0, d1, d2][j]? = some d → #[v0, v1, v2][j]? = some v → Go.Dl.VD w K d v := fun j d v g1 g2 => by
  match j with
  | 0 => simp at g1 g2; subst g1; subst g2; exact h0
  | 1 => simp at g1 g2; subst g1; subst g2; exact h1
  | 2 => simp at g1 g2; subst g1; subst g2; exact h2
  | j + 3 => simp at g1

end Go.Proofs.Ytiecekikcegnmaa
