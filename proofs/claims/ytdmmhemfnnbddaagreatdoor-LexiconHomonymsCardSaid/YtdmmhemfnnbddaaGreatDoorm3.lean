/- The logic of data over the kit's walk, and contracts of the functions that the laws reach, each said by plain data; part 4 of 6. -/
import Derived.WalkKit
import Derived.WalkMore
import Derived.Below
import Derived.Shelf.Strings.IndexAnyAll
import Derived.Laws.RangeString
import Derived.Deep.LoopGhost
import Derived.Deep.DeepBigQuietO
import Derived.Lib.TrimUEq
import Derived.Lib.OthersKept
import Derived.Test.YtdmmhemfnnbddaaGreatDoorm2
set_option linter.all false
set_option linter.unusedVariables false
set_option linter.unusedSimpArgs false
/- Strings: the reference's labels and glosses; texts. -/
namespace Go.Proofs.YtdmmhemfnnbddaaGreatDoor
open Go.Dl
open Go.Dl renaming dw_seq → kA, dw_block → kB, dw_reg → kC, dw_skip → kD, dw_exit → kE, dw_ret → kF, dw_cond → kG, guardC_f → kH, guardC_t → kI, dw_drw → kJ, dw_weaken → kK, sub_kn → kL, sub_ml → kM
open Go.Dl.CallC renaming mk → kN, light → kO
open Go.Dl.LeL renaming of_eq → kP
attribute [local irreducible] DW DCalls ECalls wk IW

theorem sz_list (s : ByteArray) : s.data.toList.length = s.size := by simp
theorem any_take_no {α : Type} {q : α → Bool} {l : List α} (h : ∀ x ∈ l.take l.length, q x = false) : l.any q = false := by
  rw [List.take_length] at h; rw [List.any_eq_false]; intro x hx; rw [h x hx]; decide
theorem any_at {α : Type} {q : α → Bool} {l : List α} {k : Nat} {x : α} (hx : l[k]? = some x) (h : q x = true) : l.any q = true := List.any_eq_true.2 ⟨x, List.mem_of_getElem? hx, h⟩

theorem pts_len : ∀ (n : Nat) (bs : List UInt8) (l : List Nat), bs.length ≤ n → ptsL bs = some l → l.length ≤ bs.length
  | n, [], l, _, h => by rw [ptsL_nil] at h; injection h with h; subst h; simp
  | 0, b :: r, l, hn, _ => by simp at hn
  | n + 1, b :: r, l, hn, h => by
    cases hf : fstL (b :: r) with
    | none => rw [ptsL_bad (by simp) hf] at h; cases h
    | some d =>
      obtain ⟨p, k⟩ := d
      have hw := fstL_width hf
      rw [ptsL_step hf] at h
      cases hr : ptsL ((b :: r).drop k) with
      | none => rw [hr] at h; cases h
      | some q =>
        rw [hr] at h; injection h with h; subst h
        have ih := pts_len n _ q (by simp at hn ⊢; omega) hr
        simp at ih hw ⊢; omega

set_option maxRecDepth 10000 in
set_option maxHeartbeats 4000000 in
theorem rLabel_D (s : ByteArray) (hs : s.size ≤ 1048576) : DCalls Tryz.prog 68 [dv (ls s)] (dv (lb (labelB s))) := by
  have hmax : maxLen = 9223372036854775807 := rfl
  have hsz := sz_list s
  have hP := rPoints_D s hs
  refine dcalls (N := 38) (rs := [.tmp 2]) (by kernel_rfl) Tryz.func68 rfl rfl rfl (by simp) ?_
  (repeat' (first | refine kA ?_ | refine kB ?_ | ((first | (refine kC (N := 38) rfl (by kernel_rfl) ?_) | refine kD ?_ | refine kE ?_); simp +decide only [go_sem]) | (apply kG; (simp +decide only [go_sem]; rfl); all_goals (intro hcnd; first | (exact absurd hcnd (by decide)) | skip)) | ((first | refine kH ?_ ?_ | refine kI ?_ ?_) <;> (intro hcnd; simp +decide only [go_sem, hcnd]))))
  refine dw_rngI s.data.toList (fun k => kn 38 [(0, dv (ls s)), (3, dv (li k))] noMem) (fun k => ∀ e ∈ s.data.toList.take k, ctl e.toNat = false) (by omega) (kL rfl (by simp +decide only [go_sem]) (by simp [noMem])) (by simp) ?_ ?_
  · intro k e he hk hm htk hlt hw hi
    rw [hsz] at hlt
    have ht := ctl_tests e.toNat
    rcases Bool.eq_false_or_eq_true (decide (((e.toNat : Nat) : Int) < 32)) with t1 | t1
    · have hc : ctl e.toNat = true := by rw [← ht, t1]; rfl
      have hB : ctlB s = true := any_at he hc
      (repeat' (first | refine kA ?_ | refine kB ?_ | ((first | (refine kC (N := 38) rfl (by kernel_rfl) ?_) | refine kD ?_ | refine kE ?_ | refine kF ?_); simp +decide only [go_sem, hlt, hw, he, t1, Int.toNat_natCast]) | (apply kG; (simp +decide only [go_sem, hlt, hw, he, t1, Int.toNat_natCast]; rfl); all_goals (intro hcnd; first | (exact absurd hcnd (by decide)) | skip)) | ((first | refine kH ?_ ?_ | refine kI ?_ ?_) <;> (intro hcnd; simp +decide only [go_sem, hcnd, hlt, hw, he, t1, Int.toNat_natCast]))))
      simp [labelB, hB]
    · rcases Bool.eq_false_or_eq_true (((e.toNat : Nat) : Int) == 127) with t2 | t2
      · have hc : ctl e.toNat = true := by rw [← ht, t1, t2]; rfl
        have hB : ctlB s = true := any_at he hc
        (repeat' (first | refine kA ?_ | refine kB ?_ | ((first | (refine kC (N := 38) rfl (by kernel_rfl) ?_) | refine kD ?_ | refine kE ?_ | refine kF ?_); simp +decide only [go_sem, hlt, hw, he, t1, t2, Int.toNat_natCast]) | (apply kG; (simp +decide only [go_sem, hlt, hw, he, t1, t2, Int.toNat_natCast]; rfl); all_goals (intro hcnd; first | (exact absurd hcnd (by decide)) | skip)) | ((first | refine kH ?_ ?_ | refine kI ?_ ?_) <;> (intro hcnd; simp +decide only [go_sem, hcnd, hlt, hw, he, t1, t2, Int.toNat_natCast]))))
        simp [labelB, hB]
      · have hc : ctl e.toNat = false := by rw [← ht, t1, t2]; rfl
        (repeat' (first | refine kA ?_ | refine kB ?_ | ((first | (refine kC (N := 38) rfl (by kernel_rfl) ?_) | refine kD ?_ | refine kE ?_ | refine kF ?_); simp +decide only [go_sem, hlt, hw, he, t1, t2, Int.toNat_natCast]) | (apply kG; (simp +decide only [go_sem, hlt, hw, he, t1, t2, Int.toNat_natCast]; rfl); all_goals (intro hcnd; first | (exact absurd hcnd (by decide)) | skip)) | ((first | refine kH ?_ ?_ | refine kI ?_ ?_) <;> (intro hcnd; simp +decide only [go_sem, hcnd, hlt, hw, he, t1, t2, Int.toNat_natCast]))))
        exact ⟨forall_snoc htk hi hc, kL rfl (by simp +decide only [go_sem]) (by simp [noMem])⟩
  · intro hlt hi
    rw [hsz] at hlt ⊢
    have hB : ctlB s = false := any_take_no hi
    cases hok : okS s
    · rw [hok] at hP
      (repeat' (first | refine kA ?_ | refine kB ?_ | ((first | (refine kC (N := 38) rfl (by kernel_rfl) ?_) | refine kD ?_ | refine kE ?_ | (refine kN (hP) (kP rfl) ?_) | (refine kO (hP) (kP rfl) ?_) | refine kF ?_); simp +decide only [go_sem, hlt]) | (apply kG; (simp +decide only [go_sem, hlt]; rfl); all_goals (intro hcnd; first | (exact absurd hcnd (by decide)) | skip)) | ((first | refine kH ?_ ?_ | refine kI ?_ ?_) <;> (intro hcnd; simp +decide only [go_sem, hcnd, hlt]))))
      simp [labelB, hok]
    · rw [hok] at hP
      rcases Bool.eq_false_or_eq_true (decide ((1 : Int) ≤ (s.size : Int))) with t1 | t1
      · rcases Bool.eq_false_or_eq_true (decide ((s.size : Int) ≤ 32)) with t2 | t2
        · (repeat' (first | refine kA ?_ | refine kB ?_ | ((first | (refine kC (N := 38) rfl (by kernel_rfl) ?_) | refine kD ?_ | refine kE ?_ | (refine kN (hP) (kP rfl) ?_) | (refine kO (hP) (kP rfl) ?_) | refine kF ?_); simp +decide only [go_sem, hlt, t1, t2]) | (apply kG; (simp +decide only [go_sem, hlt, t1, t2]; rfl); all_goals (intro hcnd; first | (exact absurd hcnd (by decide)) | skip)) | ((first | refine kH ?_ ?_ | refine kI ?_ ?_) <;> (intro hcnd; simp +decide only [go_sem, hcnd, hlt, t1, t2]))))
          have e0 : (s.size == 0) = false := beq_eq_false_iff_ne.2 (by have := of_decide_eq_true t1; omega)
          have e1 : decide ((32 : Int) < (s.size : Int)) = false := by simp at t2 ⊢; omega
          simp only [labelB, hok, hB, e0, e1]; rfl
        · (repeat' (first | refine kA ?_ | refine kB ?_ | ((first | (refine kC (N := 38) rfl (by kernel_rfl) ?_) | refine kD ?_ | refine kE ?_ | (refine kN (hP) (kP rfl) ?_) | (refine kO (hP) (kP rfl) ?_) | refine kF ?_); simp +decide only [go_sem, hlt, t1, t2]) | (apply kG; (simp +decide only [go_sem, hlt, t1, t2]; rfl); all_goals (intro hcnd; first | (exact absurd hcnd (by decide)) | skip)) | ((first | refine kH ?_ ?_ | refine kI ?_ ?_) <;> (intro hcnd; simp +decide only [go_sem, hcnd, hlt, t1, t2]))))
          have e1 : decide ((32 : Int) < (s.size : Int)) = true := by simp at t2 ⊢; omega
          simp only [labelB, hok, hB, e1]; simp
      · (repeat' (first | refine kA ?_ | refine kB ?_ | ((first | (refine kC (N := 38) rfl (by kernel_rfl) ?_) | refine kD ?_ | refine kE ?_ | (refine kN (hP) (kP rfl) ?_) | (refine kO (hP) (kP rfl) ?_) | refine kF ?_); simp +decide only [go_sem, hlt, t1]) | (apply kG; (simp +decide only [go_sem, hlt, t1]; rfl); all_goals (intro hcnd; first | (exact absurd hcnd (by decide)) | skip)) | ((first | refine kH ?_ ?_ | refine kI ?_ ?_) <;> (intro hcnd; simp +decide only [go_sem, hcnd, hlt, t1]))))
        have e0 : (s.size == 0) = true := beq_iff_eq.2 (by have := of_decide_eq_false t1; omega)
        simp only [labelB, hok, hB, e0]; rfl

def spB (s : ByteArray) : Bool := s.data.toList.any fun b => ((b.toNat : Nat) : Int) == 32 || ((b.toNat : Nat) : Int) == 45
def glossB (s : ByteArray) : Bool := labelB s && !spB s

set_option maxRecDepth 10000 in
set_option maxHeartbeats 4000000 in
theorem rGloss_D (s : ByteArray) (hs : s.size ≤ 1048576) : DCalls Tryz.prog 118 [dv (ls s)] (dv (lb (glossB s))) := by
  have hmax : maxLen = 9223372036854775807 := rfl
  have hsz := sz_list s
  refine dcalls (N := 22) (rs := [.tmp 2]) (by kernel_rfl) Tryz.func118 rfl rfl rfl (by simp) ?_
  (repeat' (first | refine kA ?_ | refine kB ?_ | ((first | (refine kC (N := 22) rfl (by kernel_rfl) ?_) | refine kD ?_ | refine kE ?_); simp +decide only [go_sem]) | (apply kG; (simp +decide only [go_sem]; rfl); all_goals (intro hcnd; first | (exact absurd hcnd (by decide)) | skip)) | ((first | refine kH ?_ ?_ | refine kI ?_ ?_) <;> (intro hcnd; simp +decide only [go_sem, hcnd]))))
  refine dw_rngI s.data.toList (fun k => kn 22 [(0, dv (ls s)), (3, dv (li k))] noMem) (fun k => ∀ e ∈ s.data.toList.take k, (((e.toNat : Nat) : Int) == 32 || ((e.toNat : Nat) : Int) == 45) = false) (by omega) (kL rfl (by simp +decide only [go_sem]) (by simp [noMem])) (by simp) ?_ ?_
  · intro k e he hk hm htk hlt hw hi
    rw [hsz] at hlt
    rcases Bool.eq_false_or_eq_true (((e.toNat : Nat) : Int) == 32) with t1 | t1
    · have hB : spB s = true := any_at he (by rw [t1]; rfl)
      (repeat' (first | refine kA ?_ | refine kB ?_ | ((first | (refine kC (N := 22) rfl (by kernel_rfl) ?_) | refine kD ?_ | refine kE ?_ | refine kF ?_); simp +decide only [go_sem, hlt, hw, he, t1, Int.toNat_natCast]) | (apply kG; (simp +decide only [go_sem, hlt, hw, he, t1, Int.toNat_natCast]; rfl); all_goals (intro hcnd; first | (exact absurd hcnd (by decide)) | skip)) | ((first | refine kH ?_ ?_ | refine kI ?_ ?_) <;> (intro hcnd; simp +decide only [go_sem, hcnd, hlt, hw, he, t1, Int.toNat_natCast]))))
      simp [glossB, hB]
    · rcases Bool.eq_false_or_eq_true (((e.toNat : Nat) : Int) == 45) with t2 | t2
      · have hB : spB s = true := any_at he (by rw [t1, t2]; rfl)
        (repeat' (first | refine kA ?_ | refine kB ?_ | ((first | (refine kC (N := 22) rfl (by kernel_rfl) ?_) | refine kD ?_ | refine kE ?_ | refine kF ?_); simp +decide only [go_sem, hlt, hw, he, t1, t2, Int.toNat_natCast]) | (apply kG; (simp +decide only [go_sem, hlt, hw, he, t1, t2, Int.toNat_natCast]; rfl); all_goals (intro hcnd; first | (exact absurd hcnd (by decide)) | skip)) | ((first | refine kH ?_ ?_ | refine kI ?_ ?_) <;> (intro hcnd; simp +decide only [go_sem, hcnd, hlt, hw, he, t1, t2, Int.toNat_natCast]))))
        simp [glossB, hB]
      · (repeat' (first | refine kA ?_ | refine kB ?_ | ((first | (refine kC (N := 22) rfl (by kernel_rfl) ?_) | refine kD ?_ | refine kE ?_ | refine kF ?_); simp +decide only [go_sem, hlt, hw, he, t1, t2, Int.toNat_natCast]) | (apply kG; (simp +decide only [go_sem, hlt, hw, he, t1, t2, Int.toNat_natCast]; rfl); all_goals (intro hcnd; first | (exact absurd hcnd (by decide)) | skip)) | ((first | refine kH ?_ ?_ | refine kI ?_ ?_) <;> (intro hcnd; simp +decide only [go_sem, hcnd, hlt, hw, he, t1, t2, Int.toNat_natCast]))))
        exact ⟨forall_snoc htk hi (by rw [t1, t2]; rfl), kL rfl (by simp +decide only [go_sem]) (by simp [noMem])⟩
  · intro hlt hi
    rw [hsz] at hlt ⊢
    have hB : spB s = false := any_take_no hi
    (repeat' (first | refine kA ?_ | refine kB ?_ | ((first | (refine kC (N := 22) rfl (by kernel_rfl) ?_) | refine kD ?_ | refine kE ?_ | (refine kN (rLabel_D s hs) (kP rfl) ?_) | (refine kO (rLabel_D s hs) (kP rfl) ?_) | refine kF ?_); simp +decide only [go_sem, hlt]) | (apply kG; (simp +decide only [go_sem, hlt]; rfl); all_goals (intro hcnd; first | (exact absurd hcnd (by decide)) | skip)) | ((first | refine kH ?_ ?_ | refine kI ?_ ?_) <;> (intro hcnd; simp +decide only [go_sem, hcnd, hlt]))))
    simp [glossB, hB]

def textE (s : ByteArray) : Int := if (200 : Int) < (s.size : Int) then 5 else if okS s = false then 3 else if ctlB s = true then 3 else 0

set_option maxRecDepth 10000 in
set_option maxHeartbeats 4000000 in
theorem text_D (s : ByteArray) : DCalls Tryz.prog 114 [dv (ls s)] (dv (li (textE s))) := by
  have hmax : maxLen = 9223372036854775807 := rfl
  have hsz := sz_list s
  refine dcalls (N := 32) (rs := [.tmp 2]) (by kernel_rfl) Tryz.func114 rfl rfl rfl (by simp) ?_
  cases h1 : decide ((200 : Int) < (s.size : Int))
  rotate_left
  · (repeat' (first | refine kA ?_ | refine kB ?_ | ((first | (refine kC (N := 32) rfl (by kernel_rfl) ?_) | refine kD ?_ | refine kE ?_ | refine kF ?_); simp +decide only [go_sem, h1]) | (apply kG; (simp +decide only [go_sem, h1]; rfl); all_goals (intro hcnd; first | (exact absurd hcnd (by decide)) | skip)) | ((first | refine kH ?_ ?_ | refine kI ?_ ?_) <;> (intro hcnd; simp +decide only [go_sem, hcnd, h1]))))
    simp only [decide_eq_true_eq] at h1
    simp [textE, h1]
  have hs : s.size ≤ 200 := by simp at h1; omega
  have hn : ¬ (200 : Int) < (s.size : Int) := by omega
  have hP := points_D s (by omega)
  cases hok : okS s
  · rw [hok] at hP
    (repeat' (first | refine kA ?_ | refine kB ?_ | ((first | (refine kC (N := 32) rfl (by kernel_rfl) ?_) | refine kD ?_ | refine kE ?_ | (refine kN (hP) (kP rfl) ?_) | (refine kO (hP) (kP rfl) ?_) | refine kF ?_); simp +decide only [go_sem, h1]) | (apply kG; (simp +decide only [go_sem, h1]; rfl); all_goals (intro hcnd; first | (exact absurd hcnd (by decide)) | skip)) | ((first | refine kH ?_ ?_ | refine kI ?_ ?_) <;> (intro hcnd; simp +decide only [go_sem, hcnd, h1]))))
    simp [textE, hn, hok]
  rw [hok] at hP
  (repeat' (first | refine kA ?_ | refine kB ?_ | ((first | (refine kC (N := 32) rfl (by kernel_rfl) ?_) | refine kD ?_ | refine kE ?_ | (refine kN (hP) (kP rfl) ?_) | (refine kO (hP) (kP rfl) ?_)); simp +decide only [go_sem, h1]) | (apply kG; (simp +decide only [go_sem, h1]; rfl); all_goals (intro hcnd; first | (exact absurd hcnd (by decide)) | skip)) | ((first | refine kH ?_ ?_ | refine kI ?_ ?_) <;> (intro hcnd; simp +decide only [go_sem, hcnd, h1]))))
  refine dw_rngI s.data.toList (fun k => kn 32 [(0, dv (ls s)), (17, dv (li s.size)), (18, dv (li k))] noMem) (fun k => ∀ e ∈ s.data.toList.take k, ctl e.toNat = false) (by omega) (kL rfl (by simp +decide only [go_sem]) (by simp [noMem])) (by simp) ?_ ?_
  · intro k e he hk hm htk hlt hw hi
    rw [hsz] at hlt
    have ht := ctl_tests e.toNat
    rcases Bool.eq_false_or_eq_true (decide (((e.toNat : Nat) : Int) < 32)) with t1 | t1
    · have hc : ctl e.toNat = true := by rw [← ht, t1]; rfl
      have hB : ctlB s = true := any_at he hc
      (repeat' (first | refine kA ?_ | refine kB ?_ | ((first | (refine kC (N := 32) rfl (by kernel_rfl) ?_) | refine kD ?_ | refine kE ?_ | refine kF ?_); simp +decide only [go_sem, hlt, hw, he, t1, Int.toNat_natCast]) | (apply kG; (simp +decide only [go_sem, hlt, hw, he, t1, Int.toNat_natCast]; rfl); all_goals (intro hcnd; first | (exact absurd hcnd (by decide)) | skip)) | ((first | refine kH ?_ ?_ | refine kI ?_ ?_) <;> (intro hcnd; simp +decide only [go_sem, hcnd, hlt, hw, he, t1, Int.toNat_natCast]))))
      simp [textE, hn, hok, hB]
    · rcases Bool.eq_false_or_eq_true (((e.toNat : Nat) : Int) == 127) with t2 | t2
      · have hc : ctl e.toNat = true := by rw [← ht, t1, t2]; rfl
        have hB : ctlB s = true := any_at he hc
        (repeat' (first | refine kA ?_ | refine kB ?_ | ((first | (refine kC (N := 32) rfl (by kernel_rfl) ?_) | refine kD ?_ | refine kE ?_ | refine kF ?_); simp +decide only [go_sem, hlt, hw, he, t1, t2, Int.toNat_natCast]) | (apply kG; (simp +decide only [go_sem, hlt, hw, he, t1, t2, Int.toNat_natCast]; rfl); all_goals (intro hcnd; first | (exact absurd hcnd (by decide)) | skip)) | ((first | refine kH ?_ ?_ | refine kI ?_ ?_) <;> (intro hcnd; simp +decide only [go_sem, hcnd, hlt, hw, he, t1, t2, Int.toNat_natCast]))))
        simp [textE, hn, hok, hB]
      · have hc : ctl e.toNat = false := by rw [← ht, t1, t2]; rfl
        (repeat' (first | refine kA ?_ | refine kB ?_ | ((first | (refine kC (N := 32) rfl (by kernel_rfl) ?_) | refine kD ?_ | refine kE ?_ | refine kF ?_); simp +decide only [go_sem, hlt, hw, he, t1, t2, Int.toNat_natCast]) | (apply kG; (simp +decide only [go_sem, hlt, hw, he, t1, t2, Int.toNat_natCast]; rfl); all_goals (intro hcnd; first | (exact absurd hcnd (by decide)) | skip)) | ((first | refine kH ?_ ?_ | refine kI ?_ ?_) <;> (intro hcnd; simp +decide only [go_sem, hcnd, hlt, hw, he, t1, t2, Int.toNat_natCast]))))
        exact ⟨forall_snoc htk hi hc, kL rfl (by simp +decide only [go_sem]) (by simp [noMem])⟩
  · intro hlt hi
    rw [hsz] at hlt ⊢
    have hB : ctlB s = false := any_take_no hi
    (repeat' (first | refine kA ?_ | refine kB ?_ | ((first | (refine kC (N := 32) rfl (by kernel_rfl) ?_) | refine kD ?_ | refine kE ?_ | refine kF ?_); simp +decide only [go_sem, hlt]) | (apply kG; (simp +decide only [go_sem, hlt]; rfl); all_goals (intro hcnd; first | (exact absurd hcnd (by decide)) | skip)) | ((first | refine kH ?_ ?_ | refine kI ?_ ?_) <;> (intro hcnd; simp +decide only [go_sem, hcnd, hlt]))))
    simp [textE, hn, hok, hB]

set_option maxRecDepth 10000 in
set_option maxHeartbeats 4000000 in
theorem rText_D (s : ByteArray) : DCalls Tryz.prog 119 [dv (ls s)] (dv (li (textE s))) := by
  have hmax : maxLen = 9223372036854775807 := rfl
  refine dcalls (N := 34) (rs := [.tmp 2]) (by kernel_rfl) Tryz.func119 rfl rfl rfl (by simp) ?_
  cases h1 : decide ((200 : Int) < (s.size : Int))
  rotate_left
  · (repeat' (first | refine kA ?_ | refine kB ?_ | ((first | (refine kC (N := 34) rfl (by kernel_rfl) ?_) | refine kD ?_ | refine kE ?_ | refine kF ?_); simp +decide only [go_sem, h1]) | (apply kG; (simp +decide only [go_sem, h1]; rfl); all_goals (intro hcnd; first | (exact absurd hcnd (by decide)) | skip)) | ((first | refine kH ?_ ?_ | refine kI ?_ ?_) <;> (intro hcnd; simp +decide only [go_sem, hcnd, h1]))))
    simp only [decide_eq_true_eq] at h1
    simp [textE, h1]
  have hs : s.size ≤ 200 := by simp at h1; omega
  have hn : ¬ (200 : Int) < (s.size : Int) := by omega
  have hP := rPoints_D s (by omega)
  cases hok : okS s
  · rw [hok] at hP
    (repeat' (first | refine kA ?_ | refine kB ?_ | ((first | (refine kC (N := 34) rfl (by kernel_rfl) ?_) | refine kD ?_ | refine kE ?_ | (refine kN (hP) (kP rfl) ?_) | (refine kO (hP) (kP rfl) ?_) | refine kF ?_); simp +decide only [go_sem, h1]) | (apply kG; (simp +decide only [go_sem, h1]; rfl); all_goals (intro hcnd; first | (exact absurd hcnd (by decide)) | skip)) | ((first | refine kH ?_ ?_ | refine kI ?_ ?_) <;> (intro hcnd; simp +decide only [go_sem, hcnd, h1]))))
    simp [textE, hn, hok]
  rw [hok] at hP
  obtain ⟨l, hl⟩ : ∃ l, ptsL s.data.toList = some l := by
    have := pts_valid s.data.toList
    unfold okS at hok
    rw [hok] at this
    exact Option.isSome_iff_exists.1 this
  have hB : ctlB s = l.any ctl := (ctl_pts _ _ l (Nat.le_refl _) hl).symm
  have hpl : ptsR s = nl l := by unfold ptsR; rw [hl]; rfl
  rw [hpl] at hP
  have hll : l.length ≤ 1000000 := by
    have := pts_len _ _ l (Nat.le_refl _) hl
    simp at this; omega
  have hnl : (ints (nl l)).length = l.length := by simp [nl]
  (repeat' (first | refine kA ?_ | refine kB ?_ | ((first | (refine kC (N := 34) rfl (by kernel_rfl) ?_) | refine kD ?_ | refine kE ?_ | (refine kN (hP) (kP rfl) ?_) | (refine kO (hP) (kP rfl) ?_)); simp +decide only [go_sem, h1]) | (apply kG; (simp +decide only [go_sem, h1]; rfl); all_goals (intro hcnd; first | (exact absurd hcnd (by decide)) | skip)) | ((first | refine kH ?_ ?_ | refine kI ?_ ?_) <;> (intro hcnd; simp +decide only [go_sem, hcnd, h1]))))
  refine dw_rngI l (fun k => kn 34 [(3, dv (.sl 1 (ints (nl l)))), (5, dv (li k))] noMem) (fun k => ∀ e ∈ l.take k, ctl e = false) (by omega) (kL rfl (by simp +decide only [go_sem]) (by simp [noMem])) (by simp) ?_ ?_
  · intro k e he hk hm htk hlt hw hi
    have ht := ctl_tests e
    have hx : (ints (nl l))[k]? = some [li (e : Int)] := by simp [nl, he]
    rcases Bool.eq_false_or_eq_true (decide (((e : Nat) : Int) < 32)) with t1 | t1
    · have hc : ctl e = true := by rw [← ht, t1]; rfl
      have hB' : ctlB s = true := by rw [hB]; exact any_at he hc
      (repeat' (first | refine kA ?_ | refine kB ?_ | ((first | (refine kC (N := 34) rfl (by kernel_rfl) ?_) | refine kD ?_ | refine kE ?_ | refine kF ?_); simp +decide only [go_sem, hnl, hlt, hw, hx, t1]) | (apply kG; (simp +decide only [go_sem, hnl, hlt, hw, hx, t1]; rfl); all_goals (intro hcnd; first | (exact absurd hcnd (by decide)) | skip)) | ((first | refine kH ?_ ?_ | refine kI ?_ ?_) <;> (intro hcnd; simp +decide only [go_sem, hcnd, hnl, hlt, hw, hx, t1]))))
      simp [textE, hn, hok, hB']
    · rcases Bool.eq_false_or_eq_true (((e : Nat) : Int) == 127) with t2 | t2
      · have hc : ctl e = true := by rw [← ht, t1, t2]; rfl
        have hB' : ctlB s = true := by rw [hB]; exact any_at he hc
        (repeat' (first | refine kA ?_ | refine kB ?_ | ((first | (refine kC (N := 34) rfl (by kernel_rfl) ?_) | refine kD ?_ | refine kE ?_ | refine kF ?_); simp +decide only [go_sem, hnl, hlt, hw, hx, t1, t2]) | (apply kG; (simp +decide only [go_sem, hnl, hlt, hw, hx, t1, t2]; rfl); all_goals (intro hcnd; first | (exact absurd hcnd (by decide)) | skip)) | ((first | refine kH ?_ ?_ | refine kI ?_ ?_) <;> (intro hcnd; simp +decide only [go_sem, hcnd, hnl, hlt, hw, hx, t1, t2]))))
        simp [textE, hn, hok, hB']
      · have hc : ctl e = false := by rw [← ht, t1, t2]; rfl
        (repeat' (first | refine kA ?_ | refine kB ?_ | ((first | (refine kC (N := 34) rfl (by kernel_rfl) ?_) | refine kD ?_ | refine kE ?_ | refine kF ?_); simp +decide only [go_sem, hnl, hlt, hw, hx, t1, t2]) | (apply kG; (simp +decide only [go_sem, hnl, hlt, hw, hx, t1, t2]; rfl); all_goals (intro hcnd; first | (exact absurd hcnd (by decide)) | skip)) | ((first | refine kH ?_ ?_ | refine kI ?_ ?_) <;> (intro hcnd; simp +decide only [go_sem, hcnd, hnl, hlt, hw, hx, t1, t2]))))
        exact ⟨forall_snoc htk hi hc, kL rfl (by simp +decide only [go_sem]) (by simp [noMem])⟩
  · intro hlt hi
    have hB' : ctlB s = false := by rw [hB]; exact any_take_no hi
    (repeat' (first | refine kA ?_ | refine kB ?_ | ((first | (refine kC (N := 34) rfl (by kernel_rfl) ?_) | refine kD ?_ | refine kE ?_ | refine kF ?_); simp +decide only [go_sem, hnl, hlt]) | (apply kG; (simp +decide only [go_sem, hnl, hlt]; rfl); all_goals (intro hcnd; first | (exact absurd hcnd (by decide)) | skip)) | ((first | refine kH ?_ ?_ | refine kI ?_ ?_) <;> (intro hcnd; simp +decide only [go_sem, hcnd, hnl, hlt]))))
    simp [textE, hn, hok, hB']
end Go.Proofs.YtdmmhemfnnbddaaGreatDoor

/- Strings: looking for a blank or a minus sign: one character beyond ASCII. -/
namespace Go.Proofs.YtdmmhemfnnbddaaGreatDoor
open Go.Dl Go.RowKit Go.Shelf
attribute [local irreducible] DW DCalls ECalls wk IW

def sp2 : ByteArray := { data := #[32, 45] }

theorem enc2 {c : Nat} (h : 128 ≤ c) (h2 : c < 2048) : ∃ x y : UInt8, Utf8.encode (c : Int) = { data := #[x, y] } ∧ 128 ≤ y.toNat := by
  refine ⟨UInt8.ofNat (0xC0 + c / 64), UInt8.ofNat (0x80 + c % 64), ?_, ?_⟩
  · have hv : Utf8.valid (c : Int) = true := by simp [Utf8.valid]; omega
    simp [Utf8.encode, hv, show ¬ c < 128 by omega, h2]
  · simp; omega
theorem enc34 {c : Nat} (h : 2048 ≤ c) (hc : scalN c) : ∃ k : Nat, k ≤ 1 ∧ (Utf8.encode (c : Int)).size = k + 3 := by
  have hv : Utf8.valid (c : Int) = true := by obtain ⟨h1, h2⟩ := hc; simp [Utf8.valid]; omega
  by_cases h3 : c < 65536
  · exact ⟨0, by omega, by simp [Utf8.encode, hv, show ¬ c < 128 by omega, show ¬ c < 2048 by omega, h3]; rfl⟩
  · exact ⟨1, by omega, by simp [Utf8.encode, hv, show ¬ c < 128 by omega, show ¬ c < 2048 by omega, h3]; rfl⟩


--F163
set_option maxRecDepth 10000 in
theorem validRune_D (c : Nat) (hc : scalN c) : DCalls Tryz.prog 163 [dv (.lit (.int .i32 (c : Int)))] (dv (lb true)) := by
  obtain ⟨h1, h2⟩ := hc
  have e1 : decide ((0 : Int) ≤ (c : Int)) = true := by simp
  by_cases h3 : c < 55296
  · have e2 : decide ((c : Int) < 55296) = true := by simp; omega
    refine dcalls (N := 17) (rs := [.tmp 2]) (by kernel_rfl) Tryz.func163 rfl rfl rfl (by simp) ?_
    (repeat' (first | (refine dw_seq ?_) | (refine dw_block ?_) | ((first | (refine dw_reg (N := 17) rfl (by kernel_rfl) ?_) | (refine dw_skip ?_) | (refine dw_exit ?_) | (refine dw_ret ?_)); simp (decide := true) only [go_sem, reduceIte, reduceCtorEq, Nat.reduceEqDiff, Nat.reduceAdd, Nat.reduceMul, Nat.reduceSub, Nat.reduceLeDiff, Nat.reduceBEq, e1, e2]) | (apply dw_cond; (simp (decide := true) only [go_sem, reduceIte, reduceCtorEq, Nat.reduceEqDiff, Nat.reduceAdd, Nat.reduceMul, Nat.reduceSub, Nat.reduceLeDiff, Nat.reduceBEq, e1, e2]; rfl); all_goals (intro hcnd; first | (exact absurd hcnd (by decide)) | skip)) | ((first | refine guardC_f ?_ ?_ | refine guardC_t ?_ ?_) <;> (intro hcnd; simp (decide := true) only [go_sem, reduceIte, reduceCtorEq, Nat.reduceEqDiff, Nat.reduceAdd, Nat.reduceMul, Nat.reduceSub, Nat.reduceLeDiff, Nat.reduceBEq, hcnd, e1, e2]))))
  · have e2 : decide ((c : Int) < 55296) = false := by simp; omega
    have e3 : decide ((57343 : Int) < (c : Int)) = true := by simp; omega
    have e4 : decide ((c : Int) ≤ 1114111) = true := by simp; omega
    refine dcalls (N := 17) (rs := [.tmp 2]) (by kernel_rfl) Tryz.func163 rfl rfl rfl (by simp) ?_
    (repeat' (first | (refine dw_seq ?_) | (refine dw_block ?_) | ((first | (refine dw_reg (N := 17) rfl (by kernel_rfl) ?_) | (refine dw_skip ?_) | (refine dw_exit ?_) | (refine dw_ret ?_)); simp (decide := true) only [go_sem, reduceIte, reduceCtorEq, Nat.reduceEqDiff, Nat.reduceAdd, Nat.reduceMul, Nat.reduceSub, Nat.reduceLeDiff, Nat.reduceBEq, e1, e2, e3, e4]) | (apply dw_cond; (simp (decide := true) only [go_sem, reduceIte, reduceCtorEq, Nat.reduceEqDiff, Nat.reduceAdd, Nat.reduceMul, Nat.reduceSub, Nat.reduceLeDiff, Nat.reduceBEq, e1, e2, e3, e4]; rfl); all_goals (intro hcnd; first | (exact absurd hcnd (by decide)) | skip)) | ((first | refine guardC_f ?_ ?_ | refine guardC_t ?_ ?_) <;> (intro hcnd; simp (decide := true) only [go_sem, reduceIte, reduceCtorEq, Nat.reduceEqDiff, Nat.reduceAdd, Nat.reduceMul, Nat.reduceSub, Nat.reduceLeDiff, Nat.reduceBEq, hcnd, e1, e2, e3, e4]))))

theorem indexByte0_D (y : Int) : DCalls Tryz.prog 162 [dv (ls ByteArray.empty), dv (.lit (.int .u8 y))] (dv (li (-1))) := by
  refine dcalls_below (by kernel_rfl) rfl fun w K vs hk hl hv => ?_
  obtain ⟨a, b, rfl⟩ : ∃ a b, vs = #[a, b] := by
    rcases vs with ⟨l⟩
    match l, hl with
    | [a, b], _ => exact ⟨a, b, rfl⟩
  have h0 := (hv 0 _ a rfl rfl).lit
  have h1 := (hv 1 _ b rfl rfl).lit
  subst h0; subst h1
  refine (Any.strings_IndexByte { Tryz.laysC with } _ _ _).mono ?_
  rintro e w1 ⟨rfl, rfl⟩
  exact ⟨rfl, Below.refl _ _⟩

theorem dw_loop1 {P : Program} {s : DS} {Q : Exit → DS → Prop} {c : Code} (h : DW P c s (thenD (fun _ => False) Q)) : DW P (.loop c) s Q :=
  dw_loop_fam (fun _ : Unit => s) (fun _ => True) (fun _ => 0) () (DS.Sub.refl _) trivial fun _ _ => h.mono fun e s' hs => by
    cases e <;> first | exact hs | exact hs.elim

--F151
set_option maxRecDepth 10000 in
set_option maxHeartbeats 4000000 in
theorem indexRune2_D (c : Nat) (hc : scalN c) (h : 128 ≤ c) (h2 : c < 2048) : DCalls Tryz.prog 151 [dv (ls sp2), dv (.lit (.int .i32 (c : Int)))] (dv (li (-1))) := by
  obtain ⟨x, y, hE, hy⟩ := enc2 h h2
  have e1 : decide ((0 : Int) ≤ (c : Int)) = true := by simp
  have e2 : decide ((c : Int) < 128) = false := by simp; omega
  have e3 : ((c : Int) == 65533) = false := by simp; omega
  have z1 : (Utf8.encode (c : Int)).size = 2 := by rw [hE]; rfl
  have z2 : (Utf8.encode (c : Int)).data.toList[1]? = some y := by rw [hE]; rfl
  have z3 : sp2.size = 2 := rfl
  have z4 : sp2.data.toList[1]? = some 45 := rfl
  have z5 : sp2.extract 2 2 = ByteArray.empty := by decide
  have e4 : ((UInt8.toNat 45 : Int) != (y.toNat : Int)) = true := by
    have : UInt8.toNat 45 = 45 := rfl
    rw [this]; simp; omega
  have w1 : IntKind.i64.wrap (2 - 1) = 1 := rfl
  have w2 : IntKind.i64.wrap (1 + 1) = 2 := rfl
  have w3 : (1 : Int).toNat = 1 := rfl
  have w4 : (2 : Int).toNat = 2 := rfl
  refine dcalls (N := 187) (rs := [.tmp 4]) (by kernel_rfl) Tryz.func151 rfl rfl rfl (by simp) ?_
  (repeat' (first | (refine dw_seq ?_) | (refine dw_block ?_) | ((first | (refine dw_reg (N := 187) rfl (by kernel_rfl) ?_) | (apply dw_drw (id := 6) (N := 187) [(0, .light), (1, .light), (2, .light), (3, .light), (4, .light), (5, .light), (6, .light)]; kernel_rfl; rfl; kernel_rfl; (repeat (first | exact Picks.nil | (apply Picks.cons; rfl)))) | (apply dw_drw (id := 7) (N := 187) [(0, .light), (1, .light), (2, .light), (3, .light), (4, .light), (5, .light), (6, .light), (7, .step), (8, .light)]; kernel_rfl; rfl; kernel_rfl; (repeat (first | exact Picks.nil | (apply Picks.cons; rfl)))) | (apply dw_drw (id := 14) (N := 187) [(0, .light), (1, .light), (2, .light), (3, .light), (4, .light), (5, .light), (6, .light), (7, .light), (8, .light), (9, .light), (10, .light)]; kernel_rfl; rfl; kernel_rfl; (repeat (first | exact Picks.nil | (apply Picks.cons; rfl)))) | (apply dw_drw (id := 31) (N := 187) [(0, .light), (1, .light), (2, .light), (3, .light), (4, .light), (5, .light), (6, .light), (7, .light), (8, .light), (9, .light), (10, .light)]; kernel_rfl; rfl; kernel_rfl; (repeat (first | exact Picks.nil | (apply Picks.cons; rfl)))) | (refine dw_skip ?_) | (refine dw_exit ?_) | (refine CallC.mk (validRune_D c hc) (LeL.of_eq rfl) ?_) | (refine CallC.light (validRune_D c hc) (LeL.of_eq rfl) ?_)); simp (decide := true) only [go_sem, reduceIte, reduceCtorEq, Nat.reduceEqDiff, Nat.reduceAdd, Nat.reduceMul, Nat.reduceSub, Nat.reduceLeDiff, Nat.reduceBEq, e1, e2, e3]) | (apply dw_cond; (simp (decide := true) only [go_sem, reduceIte, reduceCtorEq, Nat.reduceEqDiff, Nat.reduceAdd, Nat.reduceMul, Nat.reduceSub, Nat.reduceLeDiff, Nat.reduceBEq, e1, e2, e3]; rfl); all_goals (intro hcnd; first | (exact absurd hcnd (by decide)) | skip)) | ((first | refine guardC_f ?_ ?_ | refine guardC_t ?_ ?_) <;> (intro hcnd; simp (decide := true) only [go_sem, reduceIte, reduceCtorEq, Nat.reduceEqDiff, Nat.reduceAdd, Nat.reduceMul, Nat.reduceSub, Nat.reduceLeDiff, Nat.reduceBEq, hcnd, e1, e2, e3]))))
  refine dw_scope ?_
  (repeat' (first | (refine dw_seq ?_) | (refine dw_block ?_) | ((first | (refine dw_reg (N := 187) rfl (by kernel_rfl) ?_) | (apply dw_drw (id := 6) (N := 187) [(0, .light), (1, .light), (2, .light), (3, .light), (4, .light), (5, .light), (6, .light)]; kernel_rfl; rfl; kernel_rfl; (repeat (first | exact Picks.nil | (apply Picks.cons; rfl)))) | (apply dw_drw (id := 7) (N := 187) [(0, .light), (1, .light), (2, .light), (3, .light), (4, .light), (5, .light), (6, .light), (7, .step), (8, .light)]; kernel_rfl; rfl; kernel_rfl; (repeat (first | exact Picks.nil | (apply Picks.cons; rfl)))) | (apply dw_drw (id := 14) (N := 187) [(0, .light), (1, .light), (2, .light), (3, .light), (4, .light), (5, .light), (6, .light), (7, .light), (8, .light), (9, .light), (10, .light)]; kernel_rfl; rfl; kernel_rfl; (repeat (first | exact Picks.nil | (apply Picks.cons; rfl)))) | (apply dw_drw (id := 31) (N := 187) [(0, .light), (1, .light), (2, .light), (3, .light), (4, .light), (5, .light), (6, .light), (7, .light), (8, .light), (9, .light), (10, .light)]; kernel_rfl; rfl; kernel_rfl; (repeat (first | exact Picks.nil | (apply Picks.cons; rfl)))) | (refine dw_skip ?_) | (refine dw_exit ?_)); simp (decide := true) only [go_sem, reduceIte, reduceCtorEq, Nat.reduceEqDiff, Nat.reduceAdd, Nat.reduceMul, Nat.reduceSub, Nat.reduceLeDiff, Nat.reduceBEq, z1, z2, z3, z4, z5, w1, w2, w3, w4]) | (apply dw_cond; (simp (decide := true) only [go_sem, reduceIte, reduceCtorEq, Nat.reduceEqDiff, Nat.reduceAdd, Nat.reduceMul, Nat.reduceSub, Nat.reduceLeDiff, Nat.reduceBEq, z1, z2, z3, z4, z5, w1, w2, w3, w4]; rfl); all_goals (intro hcnd; first | (exact absurd hcnd (by decide)) | skip)) | ((first | refine guardC_f ?_ ?_ | refine guardC_t ?_ ?_) <;> (intro hcnd; simp (decide := true) only [go_sem, reduceIte, reduceCtorEq, Nat.reduceEqDiff, Nat.reduceAdd, Nat.reduceMul, Nat.reduceSub, Nat.reduceLeDiff, Nat.reduceBEq, hcnd, z1, z2, z3, z4, z5, w1, w2, w3, w4]))))
  refine dw_loop1 ?_
  (repeat' (first | (refine dw_seq ?_) | (refine dw_block ?_) | ((first | (refine dw_reg (N := 187) rfl (by kernel_rfl) ?_) | (apply dw_drw (id := 6) (N := 187) [(0, .light), (1, .light), (2, .light), (3, .light), (4, .light), (5, .light), (6, .light)]; kernel_rfl; rfl; kernel_rfl; (repeat (first | exact Picks.nil | (apply Picks.cons; rfl)))) | (apply dw_drw (id := 7) (N := 187) [(0, .light), (1, .light), (2, .light), (3, .light), (4, .light), (5, .light), (6, .light), (7, .step), (8, .light)]; kernel_rfl; rfl; kernel_rfl; (repeat (first | exact Picks.nil | (apply Picks.cons; rfl)))) | (apply dw_drw (id := 14) (N := 187) [(0, .light), (1, .light), (2, .light), (3, .light), (4, .light), (5, .light), (6, .light), (7, .light), (8, .light), (9, .light), (10, .light)]; kernel_rfl; rfl; kernel_rfl; (repeat (first | exact Picks.nil | (apply Picks.cons; rfl)))) | (apply dw_drw (id := 31) (N := 187) [(0, .light), (1, .light), (2, .light), (3, .light), (4, .light), (5, .light), (6, .light), (7, .light), (8, .light), (9, .light), (10, .light)]; kernel_rfl; rfl; kernel_rfl; (repeat (first | exact Picks.nil | (apply Picks.cons; rfl)))) | (refine dw_skip ?_) | (refine dw_exit ?_)); simp (decide := true) only [go_sem, reduceIte, reduceCtorEq, Nat.reduceEqDiff, Nat.reduceAdd, Nat.reduceMul, Nat.reduceSub, Nat.reduceLeDiff, Nat.reduceBEq, z1, z2, z3, z4, z5, w1, w2, w3, w4]) | (apply dw_cond; (simp (decide := true) only [go_sem, reduceIte, reduceCtorEq, Nat.reduceEqDiff, Nat.reduceAdd, Nat.reduceMul, Nat.reduceSub, Nat.reduceLeDiff, Nat.reduceBEq, z1, z2, z3, z4, z5, w1, w2, w3, w4]; rfl); all_goals (intro hcnd; first | (exact absurd hcnd (by decide)) | skip)) | ((first | refine guardC_f ?_ ?_ | refine guardC_t ?_ ?_) <;> (intro hcnd; simp (decide := true) only [go_sem, reduceIte, reduceCtorEq, Nat.reduceEqDiff, Nat.reduceAdd, Nat.reduceMul, Nat.reduceSub, Nat.reduceLeDiff, Nat.reduceBEq, hcnd, z1, z2, z3, z4, z5, w1, w2, w3, w4]))))
  refine dw_scope ?_
  (repeat' (first | (refine dw_seq ?_) | (refine dw_block ?_) | ((first | (refine dw_reg (N := 187) rfl (by kernel_rfl) ?_) | (apply dw_drw (id := 6) (N := 187) [(0, .light), (1, .light), (2, .light), (3, .light), (4, .light), (5, .light), (6, .light)]; kernel_rfl; rfl; kernel_rfl; (repeat (first | exact Picks.nil | (apply Picks.cons; rfl)))) | (apply dw_drw (id := 7) (N := 187) [(0, .light), (1, .light), (2, .light), (3, .light), (4, .light), (5, .light), (6, .light), (7, .step), (8, .light)]; kernel_rfl; rfl; kernel_rfl; (repeat (first | exact Picks.nil | (apply Picks.cons; rfl)))) | (apply dw_drw (id := 14) (N := 187) [(0, .light), (1, .light), (2, .light), (3, .light), (4, .light), (5, .light), (6, .light), (7, .light), (8, .light), (9, .light), (10, .light)]; kernel_rfl; rfl; kernel_rfl; (repeat (first | exact Picks.nil | (apply Picks.cons; rfl)))) | (apply dw_drw (id := 31) (N := 187) [(0, .light), (1, .light), (2, .light), (3, .light), (4, .light), (5, .light), (6, .light), (7, .light), (8, .light), (9, .light), (10, .light)]; kernel_rfl; rfl; kernel_rfl; (repeat (first | exact Picks.nil | (apply Picks.cons; rfl)))) | (refine dw_skip ?_) | (refine dw_exit ?_) | (refine CallC.mk (indexByte0_D y.toNat) (LeL.of_eq rfl) ?_) | (refine CallC.light (indexByte0_D y.toNat) (LeL.of_eq rfl) ?_) | (refine dw_ret ?_)); simp (decide := true) only [go_sem, reduceIte, reduceCtorEq, Nat.reduceEqDiff, Nat.reduceAdd, Nat.reduceMul, Nat.reduceSub, Nat.reduceLeDiff, Nat.reduceBEq, z1, z2, z3, z4, z5, w1, w2, w3, w4, e4]) | (apply dw_cond; (simp (decide := true) only [go_sem, reduceIte, reduceCtorEq, Nat.reduceEqDiff, Nat.reduceAdd, Nat.reduceMul, Nat.reduceSub, Nat.reduceLeDiff, Nat.reduceBEq, z1, z2, z3, z4, z5, w1, w2, w3, w4, e4]; rfl); all_goals (intro hcnd; first | (exact absurd hcnd (by decide)) | skip)) | ((first | refine guardC_f ?_ ?_ | refine guardC_t ?_ ?_) <;> (intro hcnd; simp (decide := true) only [go_sem, reduceIte, reduceCtorEq, Nat.reduceEqDiff, Nat.reduceAdd, Nat.reduceMul, Nat.reduceSub, Nat.reduceLeDiff, Nat.reduceBEq, hcnd, z1, z2, z3, z4, z5, w1, w2, w3, w4, e4]))))

--F151
set_option maxRecDepth 10000 in
set_option maxHeartbeats 4000000 in
theorem indexRune3_D (c : Nat) (hc : scalN c) (h : 2048 ≤ c) (hx : c ≠ 65533) : DCalls Tryz.prog 151 [dv (ls sp2), dv (.lit (.int .i32 (c : Int)))] (dv (li (-1))) := by
  have hmax : maxLen = 9223372036854775807 := rfl
  obtain ⟨k, hk4, hk⟩ := enc34 h hc
  have e1 : decide ((0 : Int) ≤ (c : Int)) = true := by simp
  have e2 : decide ((c : Int) < 128) = false := by simp; omega
  have e3 : ((c : Int) == 65533) = false := by simp; omega
  have z3 : sp2.size = 2 := rfl
  have w1 : IntKind.i64.wrap (((k + 3 : Nat) : Int) - 1) = ((k + 2 : Nat) : Int) := by
    rw [show ((k + 3 : Nat) : Int) - 1 = ((k + 2 : Nat) : Int) by omega]; exact wrap64n (by omega)
  have w2 : decide (((k + 2 : Nat) : Int) < 2) = false := decide_eq_false (by omega)
  refine dcalls (N := 187) (rs := [.tmp 4]) (by kernel_rfl) Tryz.func151 rfl rfl rfl (by simp) ?_
  (repeat' (first | (refine dw_seq ?_) | (refine dw_block ?_) | ((first | (refine dw_reg (N := 187) rfl (by kernel_rfl) ?_) | (apply dw_drw (id := 6) (N := 187) [(0, .light), (1, .light), (2, .light), (3, .light), (4, .light), (5, .light), (6, .light)]; kernel_rfl; rfl; kernel_rfl; (repeat (first | exact Picks.nil | (apply Picks.cons; rfl)))) | (apply dw_drw (id := 7) (N := 187) [(0, .light), (1, .light), (2, .light), (3, .light), (4, .light), (5, .light), (6, .light), (7, .step), (8, .light)]; kernel_rfl; rfl; kernel_rfl; (repeat (first | exact Picks.nil | (apply Picks.cons; rfl)))) | (apply dw_drw (id := 14) (N := 187) [(0, .light), (1, .light), (2, .light), (3, .light), (4, .light), (5, .light), (6, .light), (7, .light), (8, .light), (9, .light), (10, .light)]; kernel_rfl; rfl; kernel_rfl; (repeat (first | exact Picks.nil | (apply Picks.cons; rfl)))) | (apply dw_drw (id := 31) (N := 187) [(0, .light), (1, .light), (2, .light), (3, .light), (4, .light), (5, .light), (6, .light), (7, .light), (8, .light), (9, .light), (10, .light)]; kernel_rfl; rfl; kernel_rfl; (repeat (first | exact Picks.nil | (apply Picks.cons; rfl)))) | (refine dw_skip ?_) | (refine dw_exit ?_) | (refine CallC.mk (validRune_D c hc) (LeL.of_eq rfl) ?_) | (refine CallC.light (validRune_D c hc) (LeL.of_eq rfl) ?_)); simp (decide := true) only [go_sem, reduceIte, reduceCtorEq, Nat.reduceEqDiff, Nat.reduceAdd, Nat.reduceMul, Nat.reduceSub, Nat.reduceLeDiff, Nat.reduceBEq, e1, e2, e3]) | (apply dw_cond; (simp (decide := true) only [go_sem, reduceIte, reduceCtorEq, Nat.reduceEqDiff, Nat.reduceAdd, Nat.reduceMul, Nat.reduceSub, Nat.reduceLeDiff, Nat.reduceBEq, e1, e2, e3]; rfl); all_goals (intro hcnd; first | (exact absurd hcnd (by decide)) | skip)) | ((first | refine guardC_f ?_ ?_ | refine guardC_t ?_ ?_) <;> (intro hcnd; simp (decide := true) only [go_sem, reduceIte, reduceCtorEq, Nat.reduceEqDiff, Nat.reduceAdd, Nat.reduceMul, Nat.reduceSub, Nat.reduceLeDiff, Nat.reduceBEq, hcnd, e1, e2, e3]))))
  refine dw_scope ?_
  (repeat' (first | (refine dw_seq ?_) | (refine dw_block ?_) | ((first | (refine dw_reg (N := 187) rfl (by kernel_rfl) ?_) | (apply dw_drw (id := 6) (N := 187) [(0, .light), (1, .light), (2, .light), (3, .light), (4, .light), (5, .light), (6, .light)]; kernel_rfl; rfl; kernel_rfl; (repeat (first | exact Picks.nil | (apply Picks.cons; rfl)))) | (apply dw_drw (id := 7) (N := 187) [(0, .light), (1, .light), (2, .light), (3, .light), (4, .light), (5, .light), (6, .light), (7, .step), (8, .light)]; kernel_rfl; rfl; kernel_rfl; (repeat (first | exact Picks.nil | (apply Picks.cons; rfl)))) | (apply dw_drw (id := 14) (N := 187) [(0, .light), (1, .light), (2, .light), (3, .light), (4, .light), (5, .light), (6, .light), (7, .light), (8, .light), (9, .light), (10, .light)]; kernel_rfl; rfl; kernel_rfl; (repeat (first | exact Picks.nil | (apply Picks.cons; rfl)))) | (apply dw_drw (id := 31) (N := 187) [(0, .light), (1, .light), (2, .light), (3, .light), (4, .light), (5, .light), (6, .light), (7, .light), (8, .light), (9, .light), (10, .light)]; kernel_rfl; rfl; kernel_rfl; (repeat (first | exact Picks.nil | (apply Picks.cons; rfl)))) | (refine dw_skip ?_) | (refine dw_exit ?_)); simp (decide := true) only [go_sem, reduceIte, reduceCtorEq, Nat.reduceEqDiff, Nat.reduceAdd, Nat.reduceMul, Nat.reduceSub, Nat.reduceLeDiff, Nat.reduceBEq, hk, z3, w1, w2]) | (apply dw_cond; (simp (decide := true) only [go_sem, reduceIte, reduceCtorEq, Nat.reduceEqDiff, Nat.reduceAdd, Nat.reduceMul, Nat.reduceSub, Nat.reduceLeDiff, Nat.reduceBEq, hk, z3, w1, w2]; rfl); all_goals (intro hcnd; first | (exact absurd hcnd (by decide)) | skip)) | ((first | refine guardC_f ?_ ?_ | refine guardC_t ?_ ?_) <;> (intro hcnd; simp (decide := true) only [go_sem, reduceIte, reduceCtorEq, Nat.reduceEqDiff, Nat.reduceAdd, Nat.reduceMul, Nat.reduceSub, Nat.reduceLeDiff, Nat.reduceBEq, hcnd, hk, z3, w1, w2]))))
  refine dw_loop1 ?_
  (repeat' (first | (refine dw_seq ?_) | (refine dw_block ?_) | ((first | (refine dw_reg (N := 187) rfl (by kernel_rfl) ?_) | (apply dw_drw (id := 6) (N := 187) [(0, .light), (1, .light), (2, .light), (3, .light), (4, .light), (5, .light), (6, .light)]; kernel_rfl; rfl; kernel_rfl; (repeat (first | exact Picks.nil | (apply Picks.cons; rfl)))) | (apply dw_drw (id := 7) (N := 187) [(0, .light), (1, .light), (2, .light), (3, .light), (4, .light), (5, .light), (6, .light), (7, .step), (8, .light)]; kernel_rfl; rfl; kernel_rfl; (repeat (first | exact Picks.nil | (apply Picks.cons; rfl)))) | (apply dw_drw (id := 14) (N := 187) [(0, .light), (1, .light), (2, .light), (3, .light), (4, .light), (5, .light), (6, .light), (7, .light), (8, .light), (9, .light), (10, .light)]; kernel_rfl; rfl; kernel_rfl; (repeat (first | exact Picks.nil | (apply Picks.cons; rfl)))) | (apply dw_drw (id := 31) (N := 187) [(0, .light), (1, .light), (2, .light), (3, .light), (4, .light), (5, .light), (6, .light), (7, .light), (8, .light), (9, .light), (10, .light)]; kernel_rfl; rfl; kernel_rfl; (repeat (first | exact Picks.nil | (apply Picks.cons; rfl)))) | (refine dw_skip ?_) | (refine dw_exit ?_) | (refine dw_ret ?_)); simp (decide := true) only [go_sem, reduceIte, reduceCtorEq, Nat.reduceEqDiff, Nat.reduceAdd, Nat.reduceMul, Nat.reduceSub, Nat.reduceLeDiff, Nat.reduceBEq, hk, z3, w1, w2]) | (apply dw_cond; (simp (decide := true) only [go_sem, reduceIte, reduceCtorEq, Nat.reduceEqDiff, Nat.reduceAdd, Nat.reduceMul, Nat.reduceSub, Nat.reduceLeDiff, Nat.reduceBEq, hk, z3, w1, w2]; rfl); all_goals (intro hcnd; first | (exact absurd hcnd (by decide)) | skip)) | ((first | refine guardC_f ?_ ?_ | refine guardC_t ?_ ?_) <;> (intro hcnd; simp (decide := true) only [go_sem, reduceIte, reduceCtorEq, Nat.reduceEqDiff, Nat.reduceAdd, Nat.reduceMul, Nat.reduceSub, Nat.reduceLeDiff, Nat.reduceBEq, hcnd, hk, z3, w1, w2]))))

theorem rune_step {s : ByteArray} {q : Nat} (hq : q < s.size) (hv : (ptsL (s.data.toList.drop q)).isSome = true) :
    scalN (Utf8.decode s q).1 ∧ (ptsL (s.data.toList.drop (q + (Utf8.decode s q).2))).isSome = true ∧ 1 ≤ (Utf8.decode s q).2 ∧ q + (Utf8.decode s q).2 ≤ s.size ∧
      (((Utf8.decode s q).1 < 128 ∧ (Utf8.decode s q).2 = 1 ∧ s.data.toList[q]? = some (UInt8.ofNat (Utf8.decode s q).1)) ∨ (128 ≤ (Utf8.decode s q).1 ∧ ∀ j, q ≤ j → j < q + (Utf8.decode s q).2 → ∀ b, s.data.toList[j]? = some b → 128 ≤ b.toNat)) := by
  rw [← Go.Lib.decodeL_drop]
  have hsz : s.data.toList.length = s.size := by simp
  cases hb : s.data.toList.drop q with
  | nil => have := congrArg List.length hb; simp at this; omega
  | cons b r =>
    rw [hb] at hv
    have hne : (b :: r) ≠ [] := by simp
    have hat : ∀ j, s.data.toList[q + j]? = (b :: r)[j]? := fun j => by rw [← hb, List.getElem?_drop]
    have hqb : s.data.toList[q]? = some b := hat 0
    have hbl : (b :: r).length = s.size - q := by rw [← hb]; simp
    cases hf : fstL (b :: r) with
    | none => rw [ptsL_bad hne hf] at hv; cases hv
    | some d =>
      obtain ⟨p, k⟩ := d
      have hw := fstL_width hf
      have hd : Go.Lib.decodeL (b :: r) = (p, k) := by
        have h := fstL_decode hne
        rw [hf, okN_iff] at h
        split at h
        · cases h
        · injection h with h; exact h.symm
      rw [hd]
      have hsc : scalN p := by
        by_cases hl : leadN (bAt (b :: r) 0) ≤ (b :: r).length
        · rw [fstL_eq hl] at hf
          split at hf
          · rename_i hs
            injection hf with hf; injection hf with h1 h2
            rw [h1] at hs; exact hs.1
          · cases hf
        · rw [fstL_short (by omega)] at hf; cases hf
      refine ⟨hsc, ?_, hw.1, by show q + k ≤ _; omega, ?_⟩
      · rw [ptsL_step hf, Option.isSome_map] at hv
        rw [← List.drop_drop, hb]; exact hv
      · by_cases h128 : b.toNat < 128
        · rw [fst_ascii h128] at hf
          injection hf with hf; injection hf with h1 h2
          subst h1; subst h2
          exact .inl ⟨h128, rfl, by rw [hqb]; simp⟩
        · obtain ⟨h1, h2⟩ := fst_wide hf (by simp [bAt]; omega)
          refine .inr ⟨h1, fun j hj1 hj2 x hx => h2 x ?_⟩
          obtain ⟨m, rfl⟩ : ∃ m, j = q + m := ⟨j - q, by omega⟩
          rw [hat] at hx
          have hm : m < k := by show m < k; have : q + m < q + k := hj2; omega
          exact List.mem_of_getElem? (i := m) (by rw [List.getElem?_take, if_pos hm]; exact hx)

theorem sp2_no {b : UInt8} (h : 128 ≤ b.toNat) : sp2.data.toList.contains b = false := by
  have h1 : ¬ b = 32 := fun e => by subst e; exact absurd h (by decide)
  have h2 : ¬ b = 45 := fun e => by subst e; exact absurd h (by decide)
  show List.contains [32, 45] b = false
  simp [List.contains_cons, h1, h2]
def noSp (s : ByteArray) (q : Nat) : Prop := Go.Lib.NoAny s.data.toList sp2.data.toList q

set_option maxHeartbeats 4000000 in
set_option maxRecDepth 1000000 in
theorem indexRune_bad (w : World) : Calls Tryz.prog 151 #[.string sp2, .int .i32 65533] w fun e w' => e = .returned (.int .i64 (-1)) ∧ Below w.heap.size w w' := by
  go_enter Tryz.func151, Tryz.ntmps151
  go_wp2
  go_loopg [5, 6] 2 (fun g _ _ wx => ∃ i : Nat, i + g = 2 ∧ wx = w.iter sp2 i)
  case atStart => exact ⟨0, by omega, rfl⟩
  case round =>
    obtain ⟨i, hig, rfl⟩ := hrel
    cases gk with
    | zero =>
      obtain rfl : i = 2 := by omega
      have hnx := fun ty => run_next_end (P := Tryz.prog) w sp2 2 ty (by decide)
      go_wp2
      go_ret
      exact ⟨rfl, (Below.refl _ w).alloc (Nat.le_refl _) _⟩
    | succ g =>
      have hi : i < sp2.size := by show i < 2; omega
      obtain ⟨x, hx, hx2⟩ : ∃ x : UInt8, sp2[i]'hi = x ∧ x.toNat < 128 := by
        obtain rfl | rfl : i = 0 ∨ i = 1 := by omega
        · exact ⟨32, rfl, by decide⟩
        · exact ⟨45, rfl, by decide⟩
      have hnx := fun ty => run_next_ascii (P := Tryz.prog) w sp2 i ty hi (by rw [hx]; exact hx2)
      rw [hx] at hnx
      have e1 : ((x.toNat : Int) == 65533) = false := by simp; omega
      go_wp2
      go_roundg g
      case measure => omega
      case rel => exact ⟨i + 1, by omega, rfl⟩

theorem indexRune_c (c : Nat) (hc : scalN c) (h : 128 ≤ c) {w : World} {K : KSet} (hk : KOk w K) : Calls Tryz.prog 151 #[.string sp2, .int .i32 (c : Int)] w fun e w' => e = .returned (.int .i64 (-1)) ∧ Below w.heap.size w w' := by
  by_cases hx : c = 65533
  · subst hx; exact indexRune_bad w
  · have hD : DCalls Tryz.prog 151 [dv (ls sp2), dv (.lit (.int .i32 (c : Int)))] (dv (li (-1))) := by
      rcases Nat.lt_or_ge c 2048 with h2 | h2
      · exact indexRune2_D c hc h h2
      · exact indexRune3_D c hc h2 hx
    refine calls_lit hD hk rfl ?_
    intro j d v h1 h2
    match j with
    | 0 => simp at h1 h2; subst h1; subst h2; exact .one _ _ (.c _ _ (.lit _ rfl))
    | 1 => simp at h1 h2; subst h1; subst h2; exact .one _ _ (.c _ _ (.lit _ rfl))
    | _ + 2 => simp at h1

set_option maxHeartbeats 8000000 in
set_option maxRecDepth 1000000 in
theorem indexAny_short (s : ByteArray) (hs : s.size ≤ 8) (hok : (ptsL s.data.toList).isSome = true) {w : World} {K : KSet} (hk : KOk w K) :
    Calls Tryz.prog 136 #[.string s, .string sp2] w fun e w' => e = .returned (.int .i64 (Go.Lib.indexAny s.data.toList sp2.data.toList)) ∧ Below w.heap.size w w' := by
  have hemp : sp2.toList.isEmpty = false := by rw [Go.Lib.toList_data]; rfl
  have hn1 : ((sp2.size : Int) == 1) = false := by decide
  have h8z : decide ((8 : Int) < (s.size : Int)) = false := decide_eq_false (by omega)
  go_enter Tryz.func136, Tryz.ntmps136
  go_wp2_with (go_at_call 152; refine (Any.strings_shouldUseASCIISet { Tryz.laysC with } _ _).mono ?_; rintro e w' ⟨rfl, hw⟩; rw [hw, h8z])
  go_loopg [9, 10] s.size (fun g _ _ wx => ∃ i : Nat, i + g = s.size ∧ wx.heap[w.heap.size]? = some (.stringIter s i) ∧ Below w.heap.size w wx ∧ noSp s i ∧ (ptsL (s.data.toList.drop i)).isSome = true)
  case atStart => exact ⟨0, by omega, World.iter_heap w s 0, (Below.refl _ w).alloc (Nat.le_refl _) _, Go.Lib.NoAny.zero _ _, hok⟩
  case round =>
    obtain ⟨i, hig, hh, hbl, hno, hok2⟩ := hrel
    have HN : Aside (noSp s i) := hno
    have HV : Aside ((ptsL (s.data.toList.drop i)).isSome = true) := hok2
    have HK : Aside (KOk w K) := hk
    clear hno hok2 hok
    by_cases hi : i < s.size
    · have hnx := fun ty => Go.Lib.run_next_any_at (P := Tryz.prog) wr w.heap.size s i ty hh hi
      obtain ⟨r1, r2, r3, r4, r5⟩ := rune_step hi HV.out
      have hh1 := Go.Lib.iterAt_heap wr w.heap.size s i (i + (Utf8.decode s i).2) hh
      have hb1 : Below w.heap.size w (wr.iterAt w.heap.size s (i + (Utf8.decode s i).2)) := Go.Lib.below_iterAt hbl (Nat.le_refl _) s _
      have hk1 : KOk (wr.iterAt w.heap.size s (i + (Utf8.decode s i).2)) K := below_kok HK.out hb1
      generalize wr.iterAt w.heap.size s (i + (Utf8.decode s i).2) = W1 at hnx hh1 hb1 hk1
      obtain ⟨c, hc⟩ : ∃ c, (Utf8.decode s i).1 = c := ⟨_, rfl⟩
      obtain ⟨k, hk⟩ : ∃ k, (Utf8.decode s i).2 = k := ⟨_, rfl⟩
      rw [hc] at hnx r1 r5
      rw [hk] at hh1 r2 r3 r4 r5
      clear hc hk
      have HK1 : Aside (KOk W1 K) := hk1
      have H2 : Aside ((ptsL (s.data.toList.drop (i + k))).isSome = true) := r2
      have H4 : Aside (i + k ≤ s.size) := r4
      have H3 : Aside (1 ≤ k) := r3
      have H1 : Aside (scalN c) := r1
      clear hk1 r1 r2 r3 r4
      rcases r5 with ⟨r6, r7, r8⟩ | ⟨r6, r7⟩
      · have hback : ((c : Int)).toNat.toUInt8 = UInt8.ofNat c := by simp
        have Hx : Aside (s.data.toList[i]? = some (UInt8.ofNat c)) := r8
        clear r8
        have hcon := Go.Lib.contains_iff_indexByte sp2.data.toList (UInt8.ofNat c)
        cases hin : sp2.data.toList.contains (UInt8.ofNat c)
        · rw [hin] at hcon
          have hlt : ¬ ((0 : Int) ≤ Go.Lib.indexByte sp2.data.toList (UInt8.ofNat c)) := of_decide_eq_false hcon.symm
          clear hcon
          go_wp2_with (go_at_call 151; refine (Any.strings_IndexRune_ascii { Tryz.laysC with } _ _ _ (by omega) (by omega)).mono ?_; rintro e w' ⟨rfl, hw⟩; rw [hw, hback])
          go_roundg (s.size - (i + k))
          case measure => have := H3.out; have := H4.out; omega
          case rel =>
            subst r7
            exact ⟨i + 1, by have := H4.out; omega, hh1, hb1, HN.out.succ Hx.out hin, H2.out⟩
        · rw [hin] at hcon
          have hge : (0 : Int) ≤ Go.Lib.indexByte sp2.data.toList (UInt8.ofNat c) := of_decide_eq_true hcon.symm
          clear hcon
          go_wp2_with (go_at_call 151; refine (Any.strings_IndexRune_ascii { Tryz.laysC with } _ _ _ (by omega) (by omega)).mono ?_; rintro e w' ⟨rfl, hw⟩; rw [hw, hback])
          go_ret
          exact ⟨by rw [Go.Lib.indexAny_hit HN.out Hx.out hin]; rfl, hb1⟩
      · have H7 : Aside (∀ j, i ≤ j → j < i + k → ∀ b, s.data.toList[j]? = some b → 128 ≤ b.toNat) := r7
        clear r7
        have hsz1 : w.heap.size < W1.heap.size := (Array.getElem?_eq_some_iff.1 hh1).1
        go_wp2_with (go_at_call 151; refine (indexRune_c c H1.out r6 HK1.out).mono ?_; rintro e W2 ⟨rfl, hb2⟩)
        have hh2 : W2.heap[w.heap.size]? = some (.stringIter s (i + k)) := (hb2.block _ hsz1).trans hh1
        have hb3 : Below w.heap.size w W2 := hb1.trans (hb2.mono (by omega))
        go_wp2
        go_roundg (s.size - (i + k))
        case measure => have := H3.out; have := H4.out; omega
        case rel =>
          refine ⟨i + k, by have := H4.out; omega, hh2, hb3, fun j b hj hb => ?_, H2.out⟩
          rcases Nat.lt_or_ge j i with h | h
          · exact HN.out j b h hb
          · exact sp2_no (H7.out j h hj b hb)
    · have hnx := fun ty => Go.Lib.run_next_end_at (P := Tryz.prog) wr w.heap.size s i ty hh hi
      go_wp2
      go_ret
      have : i = s.data.toList.length := by simp; omega
      subst this
      exact ⟨by rw [Go.Lib.indexAny_none HN.out]; rfl, hbl⟩

theorem sp2_ascii (j : Nat) (b : UInt8) (h : sp2.data.toList[j]? = some b) : b.toNat < 128 := by
  match j with
  | 0 => have : b = 32 := by injection h with h; exact h.symm
         subst this; decide
  | 1 => have : b = 45 := by injection h with h; exact h.symm
         subst this; decide
  | _ + 2 => cases h
theorem two_args {P : Program} {vs : Array Value} {w : World} {E : Env} {a b : Value} (hl : vs.size = 2) (hv : ∀ (j : Nat) d v, [dv (.lit a), dv (.lit b)][j]? = some d → vs[j]? = some v → VD w E d v) : vs = #[a, b] := by
  obtain ⟨x, y, rfl⟩ : ∃ x y, vs = #[x, y] := by
    rcases vs with ⟨l⟩
    match l, hl with
    | [x, y], _ => exact ⟨x, y, rfl⟩
  rw [(hv 0 _ x rfl rfl).lit, (hv 1 _ y rfl rfl).lit]

theorem indexAny_D (s : ByteArray) (hok : okS s = true) (hs : s.size ≤ 32) : DCalls Tryz.prog 136 [dv (ls s), dv (ls sp2)] (dv (li (Go.Lib.indexAny s.data.toList sp2.data.toList))) := by
  refine dcalls_below (by kernel_rfl) rfl fun w K vs hk hl hv => ?_
  have := two_args (P := Tryz.prog) hl hv
  subst this
  by_cases h : s.size ≤ 8
  · exact indexAny_short s h (by rw [pts_valid]; exact hok) hk
  · have h116 : (Tryz.prog.info? (Tryz.laysC_ren.t 116)).map (fun i => (i.zero, i.size)) = some (some (Value.agg (Array.replicate 256 (.bool false))), 256) := by kernel_rfl
    refine (Any.strings_IndexAny_long { Tryz.laysC with } (zero_of_info h116).1 (zero_of_info h116).2 s sp2 w (Nat.le_refl 2) (by omega) (by omega) (by decide) sp2_ascii).mono ?_
    rintro e w1 ⟨rfl, rfl⟩
    exact ⟨rfl, ((Below.refl _ w).alloc (Nat.le_refl _) _).alloc (by simp) _⟩

theorem indexAny_sp (s : ByteArray) : decide ((0 : Int) ≤ Go.Lib.indexAny s.data.toList sp2.data.toList) = spB s := by
  unfold spB
  generalize s.data.toList = l
  induction l with
  | nil => rfl
  | cons b l ih =>
    have h1 := Go.Lib.indexAny_ge sp2.data.toList l
    rw [List.any_cons, ← ih, Go.Lib.indexAny]
    have hc : sp2.data.toList.contains b = (((b.toNat : Nat) : Int) == 32 || ((b.toNat : Nat) : Int) == 45) := by
      have e1 : (b == 32) = (((b.toNat : Nat) : Int) == 32) := by rw [Bool.eq_iff_iff, beq_iff_eq, beq_iff_eq, ← UInt8.toNat_inj]; simp; omega
      have e2 : (b == 45) = (((b.toNat : Nat) : Int) == 45) := by rw [Bool.eq_iff_iff, beq_iff_eq, beq_iff_eq, ← UInt8.toNat_inj]; simp; omega
      show List.contains [32, 45] b = _
      rw [List.contains_cons, List.contains_cons, e1, e2]; simp
    rw [hc]
    cases (((b.toNat : Nat) : Int) == 32 || ((b.toNat : Nat) : Int) == 45)
    · by_cases h2 : Go.Lib.indexAny l sp2.data.toList = -1
      · simp [h2]
      · have h3 : (Go.Lib.indexAny l sp2.data.toList == -1) = false := beq_eq_false_iff_ne.2 h2
        rw [h3]
        simp only [Bool.false_or, if_false, Bool.false_eq_true]
        congr 1
        exact propext ⟨fun h => by omega, fun h => by omega⟩
    · simp

--F129
set_option maxRecDepth 10000 in
theorem containsAny_D (s : ByteArray) (hok : okS s = true) (hs : s.size ≤ 32) : DCalls Tryz.prog 129 [dv (ls s), dv (ls sp2)] (dv (lb (spB s))) := by
  have := indexAny_sp s
  refine dcalls (N := 9) (rs := [.tmp 4]) (by kernel_rfl) Tryz.func129 rfl rfl rfl (by simp) ?_
  (repeat' (first | (refine dw_seq ?_) | (refine dw_block ?_) | ((first | (refine dw_reg (N := 9) rfl (by kernel_rfl) ?_) | (refine dw_skip ?_) | (refine dw_exit ?_) | (refine CallC.mk (indexAny_D s hok hs) (LeL.of_eq rfl) ?_) | (refine CallC.light (indexAny_D s hok hs) (LeL.of_eq rfl) ?_) | (refine dw_ret ?_)); simp (decide := true) only [go_sem, reduceIte, reduceCtorEq, Nat.reduceEqDiff, Nat.reduceAdd, Nat.reduceMul, Nat.reduceSub, Nat.reduceLeDiff, Nat.reduceBEq, this]) | (apply dw_cond; (simp (decide := true) only [go_sem, reduceIte, reduceCtorEq, Nat.reduceEqDiff, Nat.reduceAdd, Nat.reduceMul, Nat.reduceSub, Nat.reduceLeDiff, Nat.reduceBEq, this]; rfl); all_goals (intro hcnd; first | (exact absurd hcnd (by decide)) | skip)) | ((first | refine guardC_f ?_ ?_ | refine guardC_t ?_ ?_) <;> (intro hcnd; simp (decide := true) only [go_sem, reduceIte, reduceCtorEq, Nat.reduceEqDiff, Nat.reduceAdd, Nat.reduceMul, Nat.reduceSub, Nat.reduceLeDiff, Nat.reduceBEq, hcnd, this]))))

--F113
set_option maxRecDepth 10000 in
theorem gloss_D (s : ByteArray) : DCalls Tryz.prog 113 [dv (ls s)] (dv (lb (glossB s))) := by
  have hmax : maxLen = 9223372036854775807 := rfl
  refine dcalls (N := 10) (rs := [.tmp 2]) (by kernel_rfl) Tryz.func113 rfl rfl rfl (by simp) ?_
  cases hl : labelB s
  · have hL := label_D s
    rw [hl] at hL
    (repeat' (first | (refine dw_seq ?_) | (refine dw_block ?_) | ((first | (refine dw_reg (N := 10) rfl (by kernel_rfl) ?_) | (refine dw_skip ?_) | (refine dw_exit ?_) | (refine CallC.mk (hL) (LeL.of_eq rfl) ?_) | (refine CallC.light (hL) (LeL.of_eq rfl) ?_) | (refine dw_ret ?_)); simp (decide := true) only [go_sem, reduceIte, reduceCtorEq, Nat.reduceEqDiff, Nat.reduceAdd, Nat.reduceMul, Nat.reduceSub, Nat.reduceLeDiff, Nat.reduceBEq]) | (apply dw_cond; (simp (decide := true) only [go_sem, reduceIte, reduceCtorEq, Nat.reduceEqDiff, Nat.reduceAdd, Nat.reduceMul, Nat.reduceSub, Nat.reduceLeDiff, Nat.reduceBEq]; rfl); all_goals (intro hcnd; first | (exact absurd hcnd (by decide)) | skip)) | ((first | refine guardC_f ?_ ?_ | refine guardC_t ?_ ?_) <;> (intro hcnd; simp (decide := true) only [go_sem, reduceIte, reduceCtorEq, Nat.reduceEqDiff, Nat.reduceAdd, Nat.reduceMul, Nat.reduceSub, Nat.reduceLeDiff, Nat.reduceBEq, hcnd]))))
    simp [glossB, hl]
  · have hL := label_D s
    rw [hl] at hL
    have hok : okS s = true := by simp only [labelB, Bool.and_eq_true] at hl; simp_all
    have hs : s.size ≤ 32 := by simp only [labelB, Bool.and_eq_true] at hl; simp_all; omega
    (repeat' (first | (refine dw_seq ?_) | (refine dw_block ?_) | ((first | (refine dw_reg (N := 10) rfl (by kernel_rfl) ?_) | (refine dw_skip ?_) | (refine dw_exit ?_) | (refine CallC.mk (hL) (LeL.of_eq rfl) ?_) | (refine CallC.light (hL) (LeL.of_eq rfl) ?_) | (refine CallC.mk (containsAny_D s hok hs) (LeL.of_eq rfl) ?_) | (refine CallC.light (containsAny_D s hok hs) (LeL.of_eq rfl) ?_) | (refine dw_ret ?_)); simp (decide := true) only [go_sem, reduceIte, reduceCtorEq, Nat.reduceEqDiff, Nat.reduceAdd, Nat.reduceMul, Nat.reduceSub, Nat.reduceLeDiff, Nat.reduceBEq]) | (apply dw_cond; (simp (decide := true) only [go_sem, reduceIte, reduceCtorEq, Nat.reduceEqDiff, Nat.reduceAdd, Nat.reduceMul, Nat.reduceSub, Nat.reduceLeDiff, Nat.reduceBEq]; rfl); all_goals (intro hcnd; first | (exact absurd hcnd (by decide)) | skip)) | ((first | refine guardC_f ?_ ?_ | refine guardC_t ?_ ?_) <;> (intro hcnd; simp (decide := true) only [go_sem, reduceIte, reduceCtorEq, Nat.reduceEqDiff, Nat.reduceAdd, Nat.reduceMul, Nat.reduceSub, Nat.reduceLeDiff, Nat.reduceBEq, hcnd]))))
    simp [glossB, hl]
end Go.Proofs.YtdmmhemfnnbddaaGreatDoor

namespace Go.Proofs.YtdmmhemfnnbddaaGreatDoor
abbrev kpm1 : List (Nat × Go.Dl.Mode) := [(0, .light), (1, .light), (2, .light), (3, .light), (4, .light), (5, .step), (6, .light)]
abbrev kpm2 : List (Nat × Go.Dl.Mode) := [(0, .light), (1, .light), (2, .light), (3, .light), (4, .light), (5, .light), (6, .light), (7, .light), (8, .light), (9, .light), (10, .light), (11, .light), (12, .light)]
end Go.Proofs.YtdmmhemfnnbddaaGreatDoor
/- Entries: words; inventories. -/
namespace Go.Proofs.YtdmmhemfnnbddaaGreatDoor
open Go.Dl
open Go.Dl renaming dw_seq → kA, dw_block → kB, dw_reg → kC, dw_skip → kD, dw_exit → kE, dw_ret → kF, dw_cond → kG, guardC_f → kH, guardC_t → kI, dw_drw → kJ, dw_weaken → kK, sub_kn → kL, sub_ml → kM
open Go.Dl.CallC renaming mk → kN, light → kO
open Go.Dl.LeL renaming of_eq → kP
attribute [local irreducible] DW DCalls ECalls wk IW

def wordE (g : List Phon) (xs : List Int) : Int := if xs.length = 0 then 4 else if 24 < xs.length then 5 else if xs.any (fun n => !segOk g n) then 19 else 0

set_option maxRecDepth 10000 in
theorem word1_D (g : List Phon) (n : Int) : DCalls Tryz.prog 111 [dv (li n), dv (.pt [.sl 2 (g.map Phon.enc)])] (dv (lb (!segOk g n))) := by
  have hc := seg_D g n
  simp only [invRow] at hc
  refine dcalls (N := 8) (rs := [.tmp 3]) (by kernel_rfl) Tryz.func111 rfl rfl rfl (by simp) ?_
  (repeat' (first | refine kA ?_ | refine kB ?_ | ((first | (refine kC (N := 8) rfl (by kernel_rfl) ?_) | refine kD ?_ | refine kE ?_ | (refine kN (hc) (kP rfl) ?_) | (refine kO (hc) (kP rfl) ?_) | refine kF ?_); simp +decide only [go_sem]) | (apply kG; (simp +decide only [go_sem]; rfl); all_goals (intro hcnd; first | (exact absurd hcnd (by decide)) | skip))))

set_option maxRecDepth 10000 in
set_option maxHeartbeats 2000000 in
theorem idxW_D (g : List Phon) (xs : List Int) (hl : xs.length ≤ 1000000) : DCalls Tryz.prog 127 [dv (.sl 1 (ints xs)), dv (.fn 111 [.pt [.sl 2 (g.map Phon.enc)]])] (dv (li (idxF (fun n => !segOk g n) xs))) := by
  have hmax : maxLen = 9223372036854775807 := rfl
  refine dcalls (N := 19) (rs := [.tmp 4]) (by kernel_rfl) Tryz.func127 rfl rfl rfl (by simp) ?_
  (repeat (first | refine kA ?_ | refine kB ?_ | ((first | (refine kC (N := 19) rfl (by kernel_rfl) ?_) | refine kD ?_ | refine kE ?_); simp +decide only [go_sem])))
  refine dw_rngI xs (fun k => kn 19 [(0, dv (.sl 1 (ints xs))), (1, dv (.fn 111 [.pt [.sl 2 (g.map Phon.enc)]])), (7, dv (li xs.length)), (8, dv (li k))] noMem) (fun k => ∀ e ∈ xs.take k, (!segOk g e) = false) (by omega) (kL rfl (by simp +decide only [go_sem]) (by simp [noMem])) (by simp) ?_ ?_
  · intro k e he hk hm htk hlt hw hi
    have hc := word1_D g e
    have ha := ints_at he
    (repeat' (first | refine kA ?_ | refine kB ?_ | ((first | (refine kC (N := 19) rfl (by kernel_rfl) ?_) | refine kD ?_ | refine kE ?_ | (refine kN (hc) (kP rfl) ?_) | (refine kO (hc) (kP rfl) ?_) | refine kF ?_); simp +decide only [go_sem, hlt, hw, ha]) | (apply kG; (simp +decide only [go_sem, hlt, hw, ha]; rfl); all_goals (intro hcnd; first | (exact absurd hcnd (by decide)) | skip))))
    · rw [idxF_at he hi hcnd]
    · exact ⟨forall_snoc htk hi hcnd, kL rfl (by simp +decide only [go_sem]) (by simp [noMem])⟩
  · intro hlt hi
    rw [List.take_length] at hi
    (repeat' (first | refine kA ?_ | refine kB ?_ | ((first | (refine kC (N := 19) rfl (by kernel_rfl) ?_) | refine kD ?_ | refine kE ?_ | refine kF ?_); simp +decide only [go_sem, hlt]) | (apply kG; (simp +decide only [go_sem, hlt]; rfl); all_goals (intro hcnd; first | (exact absurd hcnd (by decide)) | skip))))
    rw [idxF_no hi]

set_option maxRecDepth 10000 in
theorem conW_D (g : List Phon) (xs : List Int) (hl : xs.length ≤ 1000000) : DCalls Tryz.prog 110 [dv (.sl 1 (ints xs)), dv (.fn 111 [.pt [.sl 2 (g.map Phon.enc)]])] (dv (lb (xs.any fun n => !segOk g n))) := by
  refine dcalls (N := 9) (rs := [.tmp 4]) (by kernel_rfl) Tryz.func110 rfl rfl rfl (by simp) ?_
  (repeat' (first | refine kA ?_ | refine kB ?_ | ((first | (refine kC (N := 9) rfl (by kernel_rfl) ?_) | refine kD ?_ | refine kE ?_ | (refine kN (idxW_D g xs hl) (kP rfl) ?_) | (refine kO (idxW_D g xs hl) (kP rfl) ?_) | refine kF ?_); simp +decide only [go_sem, idxF_any]) | (apply kG; (simp +decide only [go_sem, idxF_any]; rfl); all_goals (intro hcnd; first | (exact absurd hcnd (by decide)) | skip))))

set_option maxRecDepth 10000 in
set_option maxHeartbeats 2000000 in
theorem word_D (g : List Phon) (xs : List Int) : DCalls Tryz.prog 92 [.agg (invRow g), dv (.sl 1 (ints xs))] (dv (li (wordE g xs))) := by
  refine dcalls (N := 17) (rs := [.tmp 4]) (by kernel_rfl) Tryz.func92 rfl rfl rfl (by simp) ?_
  rcases Bool.eq_false_or_eq_true ((xs.length : Int) == 0) with t1 | t1
  · have n1 : xs.length = 0 := by have := beq_iff_eq.1 t1; omega
    (repeat' (first | refine kA ?_ | refine kB ?_ | ((first | (refine kC (N := 17) rfl (by kernel_rfl) ?_) | refine kD ?_ | refine kE ?_ | refine kF ?_); simp +decide only [go_sem, invRow, t1]) | (apply kG; (simp +decide only [go_sem, invRow, t1]; rfl); all_goals (intro hcnd; first | (exact absurd hcnd (by decide)) | skip))))
    rw [wordE, if_pos n1]
  have n1 : ¬ xs.length = 0 := by have := beq_eq_false_iff_ne.1 t1; omega
  rcases Bool.eq_false_or_eq_true (decide ((24 : Int) < (xs.length : Int))) with t2 | t2
  · have n2 : 24 < xs.length := by have := of_decide_eq_true t2; omega
    (repeat' (first | refine kA ?_ | refine kB ?_ | ((first | (refine kC (N := 17) rfl (by kernel_rfl) ?_) | refine kD ?_ | refine kE ?_ | refine kF ?_); simp +decide only [go_sem, invRow, t1, t2]) | (apply kG; (simp +decide only [go_sem, invRow, t1, t2]; rfl); all_goals (intro hcnd; first | (exact absurd hcnd (by decide)) | skip))))
    rw [wordE, if_neg n1, if_pos n2]
  have n2 : ¬ 24 < xs.length := by have := of_decide_eq_false t2; omega
  (repeat' (first | refine kA ?_ | refine kB ?_ | ((first | (refine kC (N := 17) rfl (by kernel_rfl) ?_) | refine kD ?_ | refine kE ?_); simp +decide only [go_sem, invRow, t1, t2]) | (apply kG; (simp +decide only [go_sem, invRow, t1, t2]; rfl); all_goals (intro hcnd; first | (exact absurd hcnd (by decide)) | skip))))
  refine CallC.frz 2 [.sl 2 (g.map Phon.enc)] (by simp) (by simp +decide only [go_sem]) ?_
  simp +decide only [go_sem]
  (first | (refine kN (conW_D g xs (by omega)) (kP rfl) ?_) | (refine kO (conW_D g xs (by omega)) (kP rfl) ?_)); simp +decide only [go_sem]
  cases t3 : xs.any fun n => !segOk g n <;> (repeat' (first | refine kA ?_ | refine kB ?_ | ((first | (refine kC (N := 17) rfl (by kernel_rfl) ?_) | refine kD ?_ | refine kE ?_ | refine kF ?_); simp +decide only [go_sem, t3]) | (apply kG; (simp +decide only [go_sem, t3]; rfl); all_goals (intro hcnd; first | (exact absurd hcnd (by decide)) | skip)))) <;> simp only [wordE, if_neg n1, if_neg n2, t3] <;> rfl

set_option maxRecDepth 10000 in
set_option maxHeartbeats 2000000 in
theorem rWord_D (g : List Phon) (xs : List Int) : DCalls Tryz.prog 100 [.agg (invRow g), dv (.sl 1 (ints xs))] (dv (li (wordE g xs))) := by
  have hmax : maxLen = 9223372036854775807 := rfl
  refine dcalls (N := 25) (rs := [.tmp 4]) (by kernel_rfl) Tryz.func100 rfl rfl rfl (by simp) ?_
  rcases Bool.eq_false_or_eq_true ((xs.length : Int) == 0) with t1 | t1
  · have n1 : xs.length = 0 := by have := beq_iff_eq.1 t1; omega
    (repeat' (first | refine kA ?_ | refine kB ?_ | ((first | (refine kC (N := 25) rfl (by kernel_rfl) ?_) | (apply kJ (id := 8) (N := 25) kpm1; kernel_rfl; rfl; kernel_rfl; (repeat (first | exact Picks.nil | (apply Picks.cons; rfl)))) | refine kD ?_ | refine kE ?_ | refine kF ?_); simp +decide only [go_sem, invRow, t1]) | (apply kG; (simp +decide only [go_sem, invRow, t1]; rfl); all_goals (intro hcnd; first | (exact absurd hcnd (by decide)) | skip))))
    rw [wordE, if_pos n1]
  have n1 : ¬ xs.length = 0 := by have := beq_eq_false_iff_ne.1 t1; omega
  rcases Bool.eq_false_or_eq_true (decide ((24 : Int) < (xs.length : Int))) with t2 | t2
  · have n2 : 24 < xs.length := by have := of_decide_eq_true t2; omega
    (repeat' (first | refine kA ?_ | refine kB ?_ | ((first | (refine kC (N := 25) rfl (by kernel_rfl) ?_) | (apply kJ (id := 8) (N := 25) kpm1; kernel_rfl; rfl; kernel_rfl; (repeat (first | exact Picks.nil | (apply Picks.cons; rfl)))) | refine kD ?_ | refine kE ?_ | refine kF ?_); simp +decide only [go_sem, invRow, t1, t2]) | (apply kG; (simp +decide only [go_sem, invRow, t1, t2]; rfl); all_goals (intro hcnd; first | (exact absurd hcnd (by decide)) | skip))))
    rw [wordE, if_neg n1, if_pos n2]
  have n2 : ¬ 24 < xs.length := by have := of_decide_eq_false t2; omega
  (repeat' (first | refine kA ?_ | refine kB ?_ | ((first | (refine kC (N := 25) rfl (by kernel_rfl) ?_) | (apply kJ (id := 8) (N := 25) kpm1; kernel_rfl; rfl; kernel_rfl; (repeat (first | exact Picks.nil | (apply Picks.cons; rfl)))) | refine kD ?_ | refine kE ?_); simp +decide only [go_sem, invRow, t1, t2]) | (apply kG; (simp +decide only [go_sem, invRow, t1, t2]; rfl); all_goals (intro hcnd; first | (exact absurd hcnd (by decide)) | skip))))
  refine dw_rngI xs (fun k => kn 25 [(1, dv (.sl 1 (ints xs))), (2, .one (.bx 2 1 0 0)), (13, dv (li xs.length)), (14, dv (li k))] (ml [(2, [invRow g])])) (fun k => ∀ e ∈ xs.take k, (!segOk g e) = false) (by omega) (kM rfl (by simp +decide only [go_sem]) (by simp +decide only [go_sem, invRow])) (by simp) ?_ ?_
  · intro k e he hk hm htk hlt hw hi
    have hc := rIs_D g e
    have ha := ints_at he
    simp only [invRow] at hc
    cases t3 : segOk g e
    · rw [t3] at hc
      have hB : (xs.any fun n => !segOk g n) = true := any_at he (by rw [t3]; rfl)
      (repeat' (first | refine kA ?_ | refine kB ?_ | ((first | (refine kC (N := 25) rfl (by kernel_rfl) ?_) | (apply kJ (id := 8) (N := 25) kpm1; kernel_rfl; rfl; kernel_rfl; (repeat (first | exact Picks.nil | (apply Picks.cons; rfl)))) | refine kD ?_ | refine kE ?_ | (refine kN (hc) (kP rfl) ?_) | (refine kO (hc) (kP rfl) ?_) | refine kF ?_); simp +decide only [go_sem, hlt, hw, ha, invRow]) | (apply kG; (simp +decide only [go_sem, hlt, hw, ha, invRow]; rfl); all_goals (intro hcnd; first | (exact absurd hcnd (by decide)) | skip))))
      rw [wordE, if_neg n1, if_neg n2, hB]; rfl
    · rw [t3] at hc
      (repeat' (first | refine kA ?_ | refine kB ?_ | ((first | (refine kC (N := 25) rfl (by kernel_rfl) ?_) | (apply kJ (id := 8) (N := 25) kpm1; kernel_rfl; rfl; kernel_rfl; (repeat (first | exact Picks.nil | (apply Picks.cons; rfl)))) | refine kD ?_ | refine kE ?_ | (refine kN (hc) (kP rfl) ?_) | (refine kO (hc) (kP rfl) ?_) | refine kF ?_); simp +decide only [go_sem, hlt, hw, ha, invRow]) | (apply kG; (simp +decide only [go_sem, hlt, hw, ha, invRow]; rfl); all_goals (intro hcnd; first | (exact absurd hcnd (by decide)) | skip))))
      exact ⟨forall_snoc htk hi (by rw [t3]; rfl), kM rfl (by simp +decide only [go_sem]) (by simp +decide only [go_sem, invRow])⟩
  · intro hlt hi
    have hB : (xs.any fun n => !segOk g n) = false := any_take_no hi
    (repeat' (first | refine kA ?_ | refine kB ?_ | ((first | (refine kC (N := 25) rfl (by kernel_rfl) ?_) | (apply kJ (id := 8) (N := 25) kpm1; kernel_rfl; rfl; kernel_rfl; (repeat (first | exact Picks.nil | (apply Picks.cons; rfl)))) | refine kD ?_ | refine kE ?_ | refine kF ?_); simp +decide only [go_sem, hlt]) | (apply kG; (simp +decide only [go_sem, hlt]; rfl); all_goals (intro hcnd; first | (exact absurd hcnd (by decide)) | skip))))
    rw [wordE, if_neg n1, if_neg n2, hB]; rfl

def chkI (seen : List ByteArray) : List Phon → Int
  | [] => 0
  | p :: l => if labelB p.name = false then 7 else if seen.any (fun s => s == p.name) then 8 else if p.feat < 0 ∨ 65536 ≤ p.feat then 2 else chkI (seen ++ [p.name]) l
def checkI (g : List Phon) : Int := if 60 < g.length then 11 else chkI [] g

theorem drop_at {α : Type} {l : List α} {k : Nat} {x : α} (h : l[k]? = some x) : l.drop k = x :: l.drop (k + 1) := by
  obtain ⟨hk, e⟩ := List.getElem?_eq_some_iff.1 h
  rw [List.drop_eq_getElem_cons hk, e]

set_option maxRecDepth 10000 in
set_option maxHeartbeats 4000000 in
theorem rCheckI_D (g : List Phon) (hg : ∀ p ∈ g, p.name.size ≤ 1048576) : DCalls Tryz.prog 38 [.agg (invRow g)] (dv (li (checkI g))) := by
  have hmax : maxLen = 9223372036854775807 := rfl
  refine dcalls (N := 58) (rs := [.tmp 2]) (by kernel_rfl) Tryz.func38 rfl rfl rfl (by simp) ?_
  rcases Bool.eq_false_or_eq_true (decide ((60 : Int) < (g.length : Int))) with t1 | t1
  · have n1 : 60 < g.length := by have := of_decide_eq_true t1; omega
    (repeat' (first | refine kA ?_ | refine kB ?_ | ((first | (refine kC (N := 58) rfl (by kernel_rfl) ?_) | (apply kJ (id := 11) (N := 58) kpm2; kernel_rfl; rfl; kernel_rfl; (repeat (first | exact Picks.nil | (apply Picks.cons; rfl)))) | refine kD ?_ | refine kE ?_ | refine kF ?_); simp +decide only [go_sem, invRow, t1]) | (apply kG; (simp +decide only [go_sem, invRow, t1]; rfl); all_goals (intro hcnd; first | (exact absurd hcnd (by decide)) | skip)) | ((first | refine kH ?_ ?_ | refine kI ?_ ?_) <;> (intro hcnd; simp +decide only [go_sem, hcnd, invRow, t1]))))
    rw [checkI, if_pos n1]
  have n1 : ¬ 60 < g.length := by have := of_decide_eq_false t1; omega
  (repeat' (first | refine kA ?_ | refine kB ?_ | ((first | (refine kC (N := 58) rfl (by kernel_rfl) ?_) | (apply kJ (id := 11) (N := 58) kpm2; kernel_rfl; rfl; kernel_rfl; (repeat (first | exact Picks.nil | (apply Picks.cons; rfl)))) | refine kD ?_ | refine kE ?_); simp +decide only [go_sem, invRow, t1]) | (apply kG; (simp +decide only [go_sem, invRow, t1]; rfl); all_goals (intro hcnd; first | (exact absurd hcnd (by decide)) | skip)) | ((first | refine kH ?_ ?_ | refine kI ?_ ?_) <;> (intro hcnd; simp +decide only [go_sem, hcnd, invRow, t1]))))
  refine dw_rngI g (fun k => kn 58 [(1, .one (.bx 1 1 0 0)), (11, dv (li g.length)), (12, dv (li k))] (ml [(1, [invRow g])])) (fun k => chkI ((g.take k).map (·.name)) (g.drop k) = checkI g) (by omega) (kM rfl (by simp +decide only [go_sem]) (by simp +decide only [go_sem, invRow])) (by simp [checkI, n1]) ?_ ?_
  · intro k p hp hk hm htk hlt hw hi
    rw [drop_at hp, chkI] at hi
    have hL := rLabel_D p.name (hg p hm)
    cases t2 : labelB p.name
    · rw [t2] at hL hi
      have hi' : checkI g = 7 := by rw [← hi]; rfl
      (repeat' (first | refine kA ?_ | refine kB ?_ | ((first | (refine kC (N := 58) rfl (by kernel_rfl) ?_) | (apply kJ (id := 11) (N := 58) kpm2; kernel_rfl; rfl; kernel_rfl; (repeat (first | exact Picks.nil | (apply Picks.cons; rfl)))) | refine kD ?_ | refine kE ?_ | (refine kN (hL) (kP rfl) ?_) | (refine kO (hL) (kP rfl) ?_) | refine kF ?_); simp +decide only [go_sem, hlt, hw, hp, invRow, Phon.enc]) | (apply kG; (simp +decide only [go_sem, hlt, hw, hp, invRow, Phon.enc]; rfl); all_goals (intro hcnd; first | (exact absurd hcnd (by decide)) | skip)) | ((first | refine kH ?_ ?_ | refine kI ?_ ?_) <;> (intro hcnd; simp +decide only [go_sem, hcnd, hlt, hw, hp, invRow, Phon.enc]))))
      rw [hi']
    rw [t2] at hL hi
    have hkl : (g.take k).length = k := by rw [List.length_take]; omega
    (repeat' (first | refine kA ?_ | refine kB ?_ | ((first | (refine kC (N := 58) rfl (by kernel_rfl) ?_) | (apply kJ (id := 11) (N := 58) kpm2; kernel_rfl; rfl; kernel_rfl; (repeat (first | exact Picks.nil | (apply Picks.cons; rfl)))) | refine kD ?_ | refine kE ?_ | (refine kN (hL) (kP rfl) ?_) | (refine kO (hL) (kP rfl) ?_)); simp +decide only [go_sem, hlt, hw, hp, invRow, Phon.enc]) | (apply kG; (simp +decide only [go_sem, hlt, hw, hp, invRow, Phon.enc]; rfl); all_goals (intro hcnd; first | (exact absurd hcnd (by decide)) | skip)) | ((first | refine kH ?_ ?_ | refine kI ?_ ?_) <;> (intro hcnd; simp +decide only [go_sem, hcnd, hlt, hw, hp, invRow, Phon.enc]))))
    refine dw_rngI (g.take k) (fun j => kn 58 [(1, .one (.bx 1 1 0 0)), (3, dv (li k)), (4, dv (li j)), (11, dv (li g.length)), (12, dv (li k))] (ml [(1, [invRow g])])) (fun j => ∀ e ∈ (g.take k).take j, (e.name == p.name) = false) (by omega) (kM rfl (by simp +decide only [go_sem]) (by simp +decide only [go_sem, invRow])) (by simp) ?_ ?_
    · intro j q hq hjk hjm hjt hjlt hjw hji
      rw [hkl] at hjlt hjk
      have hgq : g[j]? = some q := by rw [List.getElem?_take, if_pos hjk] at hq; exact hq
      cases t3 : (q.name == p.name)
      · (repeat' (first | refine kA ?_ | refine kB ?_ | ((first | (refine kC (N := 58) rfl (by kernel_rfl) ?_) | (apply kJ (id := 11) (N := 58) kpm2; kernel_rfl; rfl; kernel_rfl; (repeat (first | exact Picks.nil | (apply Picks.cons; rfl)))) | refine kD ?_ | refine kE ?_ | refine kF ?_); simp +decide only [go_sem, hjlt, hjw, hp, hgq, t3, invRow, Phon.enc]) | (apply kG; (simp +decide only [go_sem, hjlt, hjw, hp, hgq, t3, invRow, Phon.enc]; rfl); all_goals (intro hcnd; first | (exact absurd hcnd (by decide)) | skip)) | ((first | refine kH ?_ ?_ | refine kI ?_ ?_) <;> (intro hcnd; simp +decide only [go_sem, hcnd, hjlt, hjw, hp, hgq, t3, invRow, Phon.enc]))))
        exact ⟨forall_snoc hjt hji t3, kM rfl (by simp +decide only [go_sem]) (by simp +decide only [go_sem, invRow])⟩
      · have hs : (((g.take k).map (·.name)).any fun s => s == p.name) = true := by rw [List.any_map]; exact any_at hq t3
        have hi' : checkI g = 8 := by rw [← hi, hs]; rfl
        (repeat' (first | refine kA ?_ | refine kB ?_ | ((first | (refine kC (N := 58) rfl (by kernel_rfl) ?_) | (apply kJ (id := 11) (N := 58) kpm2; kernel_rfl; rfl; kernel_rfl; (repeat (first | exact Picks.nil | (apply Picks.cons; rfl)))) | refine kD ?_ | refine kE ?_ | refine kF ?_); simp +decide only [go_sem, hjlt, hjw, hp, hgq, t3, invRow, Phon.enc]) | (apply kG; (simp +decide only [go_sem, hjlt, hjw, hp, hgq, t3, invRow, Phon.enc]; rfl); all_goals (intro hcnd; first | (exact absurd hcnd (by decide)) | skip)) | ((first | refine kH ?_ ?_ | refine kI ?_ ?_) <;> (intro hcnd; simp +decide only [go_sem, hcnd, hjlt, hjw, hp, hgq, t3, invRow, Phon.enc]))))
        rw [hi']
    · intro hjlt hji
      rw [hkl] at hjlt ⊢
      have hs : (((g.take k).map (·.name)).any fun s => s == p.name) = false := by rw [List.any_map]; exact any_take_no hji
      rw [hs] at hi
      rcases Bool.eq_false_or_eq_true (decide (p.feat < 0)) with t4 | t4
      · have hi' : checkI g = 2 := by rw [← hi]; simp at t4; simp [t4]
        (repeat' (first | refine kA ?_ | refine kB ?_ | ((first | (refine kC (N := 58) rfl (by kernel_rfl) ?_) | (apply kJ (id := 11) (N := 58) kpm2; kernel_rfl; rfl; kernel_rfl; (repeat (first | exact Picks.nil | (apply Picks.cons; rfl)))) | refine kD ?_ | refine kE ?_ | refine kF ?_); simp +decide only [go_sem, hjlt, hp, t4, invRow, Phon.enc]) | (apply kG; (simp +decide only [go_sem, hjlt, hp, t4, invRow, Phon.enc]; rfl); all_goals (intro hcnd; first | (exact absurd hcnd (by decide)) | skip)) | ((first | refine kH ?_ ?_ | refine kI ?_ ?_) <;> (intro hcnd; simp +decide only [go_sem, hcnd, hjlt, hp, t4, invRow, Phon.enc]))))
        rw [hi']
      rcases Bool.eq_false_or_eq_true (decide ((65536 : Int) ≤ p.feat)) with t5 | t5
      · have hi' : checkI g = 2 := by rw [← hi]; simp at t5; simp [t5]
        (repeat' (first | refine kA ?_ | refine kB ?_ | ((first | (refine kC (N := 58) rfl (by kernel_rfl) ?_) | (apply kJ (id := 11) (N := 58) kpm2; kernel_rfl; rfl; kernel_rfl; (repeat (first | exact Picks.nil | (apply Picks.cons; rfl)))) | refine kD ?_ | refine kE ?_ | refine kF ?_); simp +decide only [go_sem, hjlt, hp, t4, t5, invRow, Phon.enc]) | (apply kG; (simp +decide only [go_sem, hjlt, hp, t4, t5, invRow, Phon.enc]; rfl); all_goals (intro hcnd; first | (exact absurd hcnd (by decide)) | skip)) | ((first | refine kH ?_ ?_ | refine kI ?_ ?_) <;> (intro hcnd; simp +decide only [go_sem, hcnd, hjlt, hp, t4, t5, invRow, Phon.enc]))))
        rw [hi']
      (repeat' (first | refine kA ?_ | refine kB ?_ | ((first | (refine kC (N := 58) rfl (by kernel_rfl) ?_) | (apply kJ (id := 11) (N := 58) kpm2; kernel_rfl; rfl; kernel_rfl; (repeat (first | exact Picks.nil | (apply Picks.cons; rfl)))) | refine kD ?_ | refine kE ?_ | refine kF ?_); simp +decide only [go_sem, hjlt, hp, t4, t5, hw, invRow, Phon.enc]) | (apply kG; (simp +decide only [go_sem, hjlt, hp, t4, t5, hw, invRow, Phon.enc]; rfl); all_goals (intro hcnd; first | (exact absurd hcnd (by decide)) | skip)) | ((first | refine kH ?_ ?_ | refine kI ?_ ?_) <;> (intro hcnd; simp +decide only [go_sem, hcnd, hjlt, hp, t4, t5, hw, invRow, Phon.enc]))))
      refine ⟨?_, kM rfl (by simp +decide only [go_sem]) (by simp +decide only [go_sem, invRow])⟩
      rw [htk, List.map_append, ← hi]
      have n4 := of_decide_eq_false t4
      have n5 := of_decide_eq_false t5
      rw [if_neg (by decide), if_neg (by decide), if_neg (by omega)]; rfl
  · intro hlt hi
    (repeat' (first | refine kA ?_ | refine kB ?_ | ((first | (refine kC (N := 58) rfl (by kernel_rfl) ?_) | (apply kJ (id := 11) (N := 58) kpm2; kernel_rfl; rfl; kernel_rfl; (repeat (first | exact Picks.nil | (apply Picks.cons; rfl)))) | refine kD ?_ | refine kE ?_ | refine kF ?_); simp +decide only [go_sem, hlt]) | (apply kG; (simp +decide only [go_sem, hlt]; rfl); all_goals (intro hcnd; first | (exact absurd hcnd (by decide)) | skip)) | ((first | refine kH ?_ ?_ | refine kI ?_ ?_) <;> (intro hcnd; simp +decide only [go_sem, hcnd, hlt]))))
    rw [← hi]; simp [chkI]
end Go.Proofs.YtdmmhemfnnbddaaGreatDoor

namespace Go.Proofs.YtdmmhemfnnbddaaGreatDoor
abbrev kpm3 : List (Nat × Go.Dl.Mode) := [(0, .light), (1, .light), (2, .light), (3, .light), (4, .light), (5, .light), (6, .light), (7, .light), (8, .light)]
abbrev kpm4 : List (Nat × Go.Dl.Mode) := [(0, .light), (1, .light), (2, .light), (3, .light), (4, .light), (5, .light), (6, .light), (7, .light), (8, .light), (9, .light), (10, .step), (11, .light)]
abbrev kpm5 : List (Nat × Go.Dl.Mode) := [(0, .light), (1, .light), (2, .light), (3, .light), (4, .light), (5, .light), (6, .light), (7, .light), (8, .light), (9, .light), (10, .light)]
end Go.Proofs.YtdmmhemfnnbddaaGreatDoor
/- Entries compared: one with one. -/
namespace Go.Proofs.YtdmmhemfnnbddaaGreatDoor
open Go.Dl
open Go.Dl renaming dw_seq → kA, dw_block → kB, dw_reg → kC, dw_skip → kD, dw_exit → kE, dw_ret → kF, dw_cond → kG, guardC_f → kH, guardC_t → kI, dw_drw → kJ, dw_weaken → kK, sub_kn → kL, sub_ml → kM
open Go.Dl.CallC renaming mk → kN, light → kO
open Go.Dl.LeL renaming of_eq → kP
attribute [local irreducible] DW ECalls wk IW

theorem vc_len {w : World} {K : KSet} {sz : Nat} {xs : List (List Dl.C)} {v : Value} (h : VC w K (.sl sz xs) v) : xs.length ≤ maxLen := by
  cases h with
  | nil => simp
  | sl _ _ _ _ _ _ hc hm _ _ => omega
theorem vc_in {w : World} {K : KSet} {sz : Nat} {xs : List (List Dl.C)} {v : Value} (h : VC w K (.sl sz xs) v) {r : List Dl.C} {c : Dl.C} (hr : r ∈ xs) (hc : c ∈ r) : ∃ v', VC w K c v' := by
  cases h with
  | nil => simp at hr
  | sl _ _ _ _ cv _ _ _ _ h2 =>
    obtain ⟨i, hi⟩ := List.mem_iff_getElem?.1 hr
    obtain ⟨j, hj⟩ := List.mem_iff_getElem?.1 hc
    exact ⟨_, h2 i j r c hi hj⟩

theorem dcalls_grant {P : Program} {f : FuncId} {ds : List D} {r : D} {p : Prop} (hp : Program.plainF P f = true) (hg : ∀ (w : World) (K : KSet), (∀ d ∈ ds, ∃ v, VD w (E0 K) d v) → p) (h : p → DCalls P f ds r) : DCalls P f ds r :=
  ⟨hp, fun w K vs hK hsz hv => by
    have : p := hg w K fun d hd => by
      obtain ⟨j, hj⟩ := List.mem_iff_getElem?.1 hd
      have hjl : j < ds.length := (List.getElem?_eq_some_iff.1 hj).1
      exact ⟨vs[j], hv j d vs[j] hj (Array.getElem?_eq_getElem (by omega))⟩
    exact (h this).2 w K vs hK hsz hv⟩

attribute [local irreducible] DCalls

structure OkE (e : Ent) : Prop where
  form : e.form.length ≤ maxLen
  alts : e.alts.length ≤ maxLen
  alt : ∀ a ∈ e.alts, a.length ≤ maxLen
  senses : e.senses.length ≤ maxLen
  links : e.links.length ≤ maxLen
  refs : e.refs.length ≤ maxLen

theorem okE_of {w : World} {E : Env} {e : Ent} {v : Value} (h : VD w E (.agg e.row) v) : OkE e := by
  cases h with
  | agg _ vs hl hr =>
    have hsz : vs.size = 8 := hl
    have hc : ∀ (j : Nat) (c : Dl.C), j < 8 → e.row[j]? = some (.c c) → ∃ v, VC w E.K c v := fun j c hj hjr => by
      have := hr j _ vs[j] hjr (Array.getElem?_eq_getElem (by omega))
      cases this with
      | c _ _ h => exact ⟨_, h⟩
    obtain ⟨v1, h1⟩ := hc 1 _ (by decide) rfl
    obtain ⟨v3, h3⟩ := hc 3 _ (by decide) rfl
    obtain ⟨v5, h5⟩ := hc 5 _ (by decide) rfl
    obtain ⟨v6, h6⟩ := hc 6 _ (by decide) rfl
    obtain ⟨v7, h7⟩ := hc 7 _ (by decide) rfl
    refine ⟨by simpa using vc_len h1, by simpa using vc_len h3, fun a ha => ?_, by simpa using vc_len h5, by simpa using vc_len h6, by simpa using vc_len h7⟩
    obtain ⟨v', h'⟩ := vc_in h3 (List.mem_map.2 ⟨a, ha, rfl⟩) (List.mem_singleton.2 rfl)
    simpa using vc_len h'

theorem lnk_eq (x y : Lnk) : (x.kind == y.kind && (x.tgt == y.tgt)) = decide (x = y) := by rw [Bool.eq_iff_iff]; cases x; cases y; simp
theorem sns_eq (x y : Sns) : (x.gloss == y.gloss && (x.txt == y.txt)) = decide (x = y) := by rw [Bool.eq_iff_iff]; cases x; cases y; simp [bytes_eq]

set_option maxRecDepth 10000 in
set_option maxHeartbeats 4000000 in
theorem sameI_D (xs ys : List Int) (hx : xs.length ≤ maxLen) : DCalls Tryz.prog 22 [dv (.sl 1 (ints xs)), dv (.sl 1 (ints ys))] (dv (lb (decide (xs = ys)))) := by
  refine dcalls (N := 26) (rs := [.tmp 4]) (by kernel_rfl) Tryz.func22 rfl rfl rfl (by simp) ?_
  (repeat' (first | refine kA ?_ | refine kB ?_ | ((first | (refine kC (N := 26) rfl (by kernel_rfl) ?_) | (apply kJ (id := 6) (N := 26) kpm3; kernel_rfl; rfl; kernel_rfl; (repeat (first | exact Picks.nil | (apply Picks.cons; rfl)))) | refine kD ?_ | refine kE ?_ | refine kF ?_); simp +decide only [go_sem]) | (apply kG; (simp +decide only [go_sem]; rfl); all_goals (intro hcnd; first | (exact absurd hcnd (by decide)) | skip))))
  · have : xs ≠ ys := fun e => by subst e; simp at hcnd
    simp [this]
  · have hl : xs.length = ys.length := by simp at hcnd; omega
    refine dw_rngI xs (fun k => kn 26 [(0, dv (.sl 1 (ints xs))), (1, dv (.sl 1 (ints ys))), (12, dv (li xs.length)), (13, dv (li k))] noMem) (fun k => xs.take k = ys.take k) hx (kL rfl (by simp +decide only [go_sem]) (by simp [noMem])) rfl ?_ ?_
    · intro k x hx hk hm htk hlt hw hi
      have hyk : k < ys.length := by omega
      have hy : ys[k]? = some ys[k] := List.getElem?_eq_getElem hyk
      have hx' := ints_at hx
      have hy' := ints_at hy
      (repeat' (first | refine kA ?_ | refine kB ?_ | ((first | (refine kC (N := 26) rfl (by kernel_rfl) ?_) | (apply kJ (id := 6) (N := 26) kpm3; kernel_rfl; rfl; kernel_rfl; (repeat (first | exact Picks.nil | (apply Picks.cons; rfl)))) | refine kD ?_ | refine kE ?_ | refine kF ?_); simp +decide only [go_sem, hlt, hw, hx', hy']) | (apply kG; (simp +decide only [go_sem, hlt, hw, hx', hy']; rfl); all_goals (intro hcnd; first | (exact absurd hcnd (by decide)) | skip))))
      · have hne : x ≠ ys[k] := by simpa using hcnd
        have : xs ≠ ys := fun e => by
          subst e; rw [hx] at hy; injection hy with hy; exact hne hy
        simp [this]
      · have he : x = ys[k] := by simpa using hcnd
        exact ⟨by rw [htk, hi, he, ← take_snoc hy], kL rfl (by simp +decide only [go_sem]) (by simp [noMem])⟩
    · intro hlt hi
      rw [List.take_length, hl, List.take_length] at hi
      (repeat' (first | refine kA ?_ | refine kB ?_ | ((first | (refine kC (N := 26) rfl (by kernel_rfl) ?_) | (apply kJ (id := 6) (N := 26) kpm3; kernel_rfl; rfl; kernel_rfl; (repeat (first | exact Picks.nil | (apply Picks.cons; rfl)))) | refine kD ?_ | refine kE ?_ | refine kF ?_); simp +decide only [go_sem, hlt]) | (apply kG; (simp +decide only [go_sem, hlt]; rfl); all_goals (intro hcnd; first | (exact absurd hcnd (by decide)) | skip))))
      simp [hi]

set_option maxRecDepth 10000 in
set_option maxHeartbeats 4000000 in
theorem eqI_D (xs ys : List Int) (hx : xs.length ≤ maxLen) : DCalls Tryz.prog 52 [dv (.sl 1 (ints xs)), dv (.sl 1 (ints ys))] (dv (lb (decide (xs = ys)))) := by
  refine dcalls (N := 26) (rs := [.tmp 4]) (by kernel_rfl) Tryz.func52 rfl rfl rfl (by simp) ?_
  (repeat' (first | refine kA ?_ | refine kB ?_ | ((first | (refine kC (N := 26) rfl (by kernel_rfl) ?_) | (apply kJ (id := 6) (N := 26) kpm3; kernel_rfl; rfl; kernel_rfl; (repeat (first | exact Picks.nil | (apply Picks.cons; rfl)))) | refine kD ?_ | refine kE ?_ | refine kF ?_); simp +decide only [go_sem]) | (apply kG; (simp +decide only [go_sem]; rfl); all_goals (intro hcnd; first | (exact absurd hcnd (by decide)) | skip))))
  · have : xs ≠ ys := fun e => by subst e; simp at hcnd
    simp [this]
  · have hl : xs.length = ys.length := by simp at hcnd; omega
    refine dw_rngI xs (fun k => kn 26 [(0, dv (.sl 1 (ints xs))), (1, dv (.sl 1 (ints ys))), (12, dv (li xs.length)), (13, dv (li k))] noMem) (fun k => xs.take k = ys.take k) hx (kL rfl (by simp +decide only [go_sem]) (by simp [noMem])) rfl ?_ ?_
    · intro k x hx hk hm htk hlt hw hi
      have hyk : k < ys.length := by omega
      have hy : ys[k]? = some ys[k] := List.getElem?_eq_getElem hyk
      have hx' := ints_at hx
      have hy' := ints_at hy
      (repeat' (first | refine kA ?_ | refine kB ?_ | ((first | (refine kC (N := 26) rfl (by kernel_rfl) ?_) | (apply kJ (id := 6) (N := 26) kpm3; kernel_rfl; rfl; kernel_rfl; (repeat (first | exact Picks.nil | (apply Picks.cons; rfl)))) | refine kD ?_ | refine kE ?_ | refine kF ?_); simp +decide only [go_sem, hlt, hw, hx', hy']) | (apply kG; (simp +decide only [go_sem, hlt, hw, hx', hy']; rfl); all_goals (intro hcnd; first | (exact absurd hcnd (by decide)) | skip))))
      · have hne : x ≠ ys[k] := by simpa using hcnd
        have : xs ≠ ys := fun e => by
          subst e; rw [hx] at hy; injection hy with hy; exact hne hy
        simp [this]
      · have he : x = ys[k] := by simpa using hcnd
        exact ⟨by rw [htk, hi, he, ← take_snoc hy], kL rfl (by simp +decide only [go_sem]) (by simp [noMem])⟩
    · intro hlt hi
      rw [List.take_length, hl, List.take_length] at hi
      (repeat' (first | refine kA ?_ | refine kB ?_ | ((first | (refine kC (N := 26) rfl (by kernel_rfl) ?_) | (apply kJ (id := 6) (N := 26) kpm3; kernel_rfl; rfl; kernel_rfl; (repeat (first | exact Picks.nil | (apply Picks.cons; rfl)))) | refine kD ?_ | refine kE ?_ | refine kF ?_); simp +decide only [go_sem, hlt]) | (apply kG; (simp +decide only [go_sem, hlt]; rfl); all_goals (intro hcnd; first | (exact absurd hcnd (by decide)) | skip))))
      simp [hi]

set_option maxRecDepth 10000 in
set_option maxHeartbeats 4000000 in
theorem eqS_D (xs ys : List Sns) (hx : xs.length ≤ maxLen) : DCalls Tryz.prog 88 [dv (.sl 2 (xs.map Sns.enc)), dv (.sl 2 (ys.map Sns.enc))] (dv (lb (decide (xs = ys)))) := by
  refine dcalls (N := 26) (rs := [.tmp 4]) (by kernel_rfl) Tryz.func88 rfl rfl rfl (by simp) ?_
  (repeat' (first | refine kA ?_ | refine kB ?_ | ((first | (refine kC (N := 26) rfl (by kernel_rfl) ?_) | (apply kJ (id := 6) (N := 26) kpm3; kernel_rfl; rfl; kernel_rfl; (repeat (first | exact Picks.nil | (apply Picks.cons; rfl)))) | refine kD ?_ | refine kE ?_ | refine kF ?_); simp +decide only [go_sem]) | (apply kG; (simp +decide only [go_sem]; rfl); all_goals (intro hcnd; first | (exact absurd hcnd (by decide)) | skip))))
  · have : xs ≠ ys := fun e => by subst e; simp at hcnd
    simp [this]
  · have hl : xs.length = ys.length := by simp at hcnd; omega
    refine dw_rngI xs (fun k => kn 26 [(0, dv (.sl 2 (xs.map Sns.enc))), (1, dv (.sl 2 (ys.map Sns.enc))), (12, dv (li xs.length)), (13, dv (li k))] noMem) (fun k => xs.take k = ys.take k) hx (kL rfl (by simp +decide only [go_sem]) (by simp [noMem])) rfl ?_ ?_
    · intro k x hx hk hm htk hlt hw hi
      have hyk : k < ys.length := by omega
      have hy : ys[k]? = some ys[k] := List.getElem?_eq_getElem hyk
      have hle := sns_eq x ys[k]
      by_cases h4 : x = ys[k]
      · have h5 : decide (x = ys[k]) = true := by simpa using h4
        (repeat' (first | refine kA ?_ | refine kB ?_ | ((first | (refine kC (N := 26) rfl (by kernel_rfl) ?_) | (apply kJ (id := 6) (N := 26) kpm3; kernel_rfl; rfl; kernel_rfl; (repeat (first | exact Picks.nil | (apply Picks.cons; rfl)))) | refine kD ?_ | refine kE ?_ | refine kF ?_); simp +decide only [go_sem, hlt, hw, hx, hy, hle, h5, Sns.enc]) | (apply kG; (simp +decide only [go_sem, hlt, hw, hx, hy, hle, h5, Sns.enc]; rfl); all_goals (intro hcnd; first | (exact absurd hcnd (by decide)) | skip))))
        exact ⟨by rw [htk, hi, h4, ← take_snoc hy], kL rfl (by simp +decide only [go_sem]) (by simp [noMem])⟩
      · have h5 : decide (x = ys[k]) = false := by simpa using h4
        have : xs ≠ ys := fun e => by
          subst e; rw [hx] at hy; injection hy with hy; exact h4 hy
        (repeat' (first | refine kA ?_ | refine kB ?_ | ((first | (refine kC (N := 26) rfl (by kernel_rfl) ?_) | (apply kJ (id := 6) (N := 26) kpm3; kernel_rfl; rfl; kernel_rfl; (repeat (first | exact Picks.nil | (apply Picks.cons; rfl)))) | refine kD ?_ | refine kE ?_ | refine kF ?_); simp +decide only [go_sem, hlt, hw, hx, hy, hle, h5, Sns.enc]) | (apply kG; (simp +decide only [go_sem, hlt, hw, hx, hy, hle, h5, Sns.enc]; rfl); all_goals (intro hcnd; first | (exact absurd hcnd (by decide)) | skip))))
        simp [this]
    · intro hlt hi
      rw [List.take_length, hl, List.take_length] at hi
      (repeat' (first | refine kA ?_ | refine kB ?_ | ((first | (refine kC (N := 26) rfl (by kernel_rfl) ?_) | (apply kJ (id := 6) (N := 26) kpm3; kernel_rfl; rfl; kernel_rfl; (repeat (first | exact Picks.nil | (apply Picks.cons; rfl)))) | refine kD ?_ | refine kE ?_ | refine kF ?_); simp +decide only [go_sem, hlt]) | (apply kG; (simp +decide only [go_sem, hlt]; rfl); all_goals (intro hcnd; first | (exact absurd hcnd (by decide)) | skip))))
      simp [hi]

set_option maxRecDepth 10000 in
set_option maxHeartbeats 4000000 in
theorem eqL_D (xs ys : List Lnk) (hx : xs.length ≤ maxLen) : DCalls Tryz.prog 89 [dv (.sl 2 (xs.map Lnk.enc)), dv (.sl 2 (ys.map Lnk.enc))] (dv (lb (decide (xs = ys)))) := by
  refine dcalls (N := 26) (rs := [.tmp 4]) (by kernel_rfl) Tryz.func89 rfl rfl rfl (by simp) ?_
  (repeat' (first | refine kA ?_ | refine kB ?_ | ((first | (refine kC (N := 26) rfl (by kernel_rfl) ?_) | (apply kJ (id := 6) (N := 26) kpm3; kernel_rfl; rfl; kernel_rfl; (repeat (first | exact Picks.nil | (apply Picks.cons; rfl)))) | refine kD ?_ | refine kE ?_ | refine kF ?_); simp +decide only [go_sem]) | (apply kG; (simp +decide only [go_sem]; rfl); all_goals (intro hcnd; first | (exact absurd hcnd (by decide)) | skip))))
  · have : xs ≠ ys := fun e => by subst e; simp at hcnd
    simp [this]
  · have hl : xs.length = ys.length := by simp at hcnd; omega
    refine dw_rngI xs (fun k => kn 26 [(0, dv (.sl 2 (xs.map Lnk.enc))), (1, dv (.sl 2 (ys.map Lnk.enc))), (12, dv (li xs.length)), (13, dv (li k))] noMem) (fun k => xs.take k = ys.take k) hx (kL rfl (by simp +decide only [go_sem]) (by simp [noMem])) rfl ?_ ?_
    · intro k x hx hk hm htk hlt hw hi
      have hyk : k < ys.length := by omega
      have hy : ys[k]? = some ys[k] := List.getElem?_eq_getElem hyk
      have hle := lnk_eq x ys[k]
      by_cases h4 : x = ys[k]
      · have h5 : decide (x = ys[k]) = true := by simpa using h4
        (repeat' (first | refine kA ?_ | refine kB ?_ | ((first | (refine kC (N := 26) rfl (by kernel_rfl) ?_) | (apply kJ (id := 6) (N := 26) kpm3; kernel_rfl; rfl; kernel_rfl; (repeat (first | exact Picks.nil | (apply Picks.cons; rfl)))) | refine kD ?_ | refine kE ?_ | refine kF ?_); simp +decide only [go_sem, hlt, hw, hx, hy, hle, h5, Lnk.enc]) | (apply kG; (simp +decide only [go_sem, hlt, hw, hx, hy, hle, h5, Lnk.enc]; rfl); all_goals (intro hcnd; first | (exact absurd hcnd (by decide)) | skip))))
        exact ⟨by rw [htk, hi, h4, ← take_snoc hy], kL rfl (by simp +decide only [go_sem]) (by simp [noMem])⟩
      · have h5 : decide (x = ys[k]) = false := by simpa using h4
        have : xs ≠ ys := fun e => by
          subst e; rw [hx] at hy; injection hy with hy; exact h4 hy
        (repeat' (first | refine kA ?_ | refine kB ?_ | ((first | (refine kC (N := 26) rfl (by kernel_rfl) ?_) | (apply kJ (id := 6) (N := 26) kpm3; kernel_rfl; rfl; kernel_rfl; (repeat (first | exact Picks.nil | (apply Picks.cons; rfl)))) | refine kD ?_ | refine kE ?_ | refine kF ?_); simp +decide only [go_sem, hlt, hw, hx, hy, hle, h5, Lnk.enc]) | (apply kG; (simp +decide only [go_sem, hlt, hw, hx, hy, hle, h5, Lnk.enc]; rfl); all_goals (intro hcnd; first | (exact absurd hcnd (by decide)) | skip))))
        simp [this]
    · intro hlt hi
      rw [List.take_length, hl, List.take_length] at hi
      (repeat' (first | refine kA ?_ | refine kB ?_ | ((first | (refine kC (N := 26) rfl (by kernel_rfl) ?_) | (apply kJ (id := 6) (N := 26) kpm3; kernel_rfl; rfl; kernel_rfl; (repeat (first | exact Picks.nil | (apply Picks.cons; rfl)))) | refine kD ?_ | refine kE ?_ | refine kF ?_); simp +decide only [go_sem, hlt]) | (apply kG; (simp +decide only [go_sem, hlt]; rfl); all_goals (intro hcnd; first | (exact absurd hcnd (by decide)) | skip))))
      simp [hi]

set_option maxRecDepth 10000 in
set_option maxHeartbeats 4000000 in
theorem eqR_D (xs ys : List Lnk) (hx : xs.length ≤ maxLen) : DCalls Tryz.prog 90 [dv (.sl 2 (xs.map Lnk.enc)), dv (.sl 2 (ys.map Lnk.enc))] (dv (lb (decide (xs = ys)))) := by
  refine dcalls (N := 26) (rs := [.tmp 4]) (by kernel_rfl) Tryz.func90 rfl rfl rfl (by simp) ?_
  (repeat' (first | refine kA ?_ | refine kB ?_ | ((first | (refine kC (N := 26) rfl (by kernel_rfl) ?_) | (apply kJ (id := 6) (N := 26) kpm3; kernel_rfl; rfl; kernel_rfl; (repeat (first | exact Picks.nil | (apply Picks.cons; rfl)))) | refine kD ?_ | refine kE ?_ | refine kF ?_); simp +decide only [go_sem]) | (apply kG; (simp +decide only [go_sem]; rfl); all_goals (intro hcnd; first | (exact absurd hcnd (by decide)) | skip))))
  · have : xs ≠ ys := fun e => by subst e; simp at hcnd
    simp [this]
  · have hl : xs.length = ys.length := by simp at hcnd; omega
    refine dw_rngI xs (fun k => kn 26 [(0, dv (.sl 2 (xs.map Lnk.enc))), (1, dv (.sl 2 (ys.map Lnk.enc))), (12, dv (li xs.length)), (13, dv (li k))] noMem) (fun k => xs.take k = ys.take k) hx (kL rfl (by simp +decide only [go_sem]) (by simp [noMem])) rfl ?_ ?_
    · intro k x hx hk hm htk hlt hw hi
      have hyk : k < ys.length := by omega
      have hy : ys[k]? = some ys[k] := List.getElem?_eq_getElem hyk
      have hle := lnk_eq x ys[k]
      by_cases h4 : x = ys[k]
      · have h5 : decide (x = ys[k]) = true := by simpa using h4
        (repeat' (first | refine kA ?_ | refine kB ?_ | ((first | (refine kC (N := 26) rfl (by kernel_rfl) ?_) | (apply kJ (id := 6) (N := 26) kpm3; kernel_rfl; rfl; kernel_rfl; (repeat (first | exact Picks.nil | (apply Picks.cons; rfl)))) | refine kD ?_ | refine kE ?_ | refine kF ?_); simp +decide only [go_sem, hlt, hw, hx, hy, hle, h5, Lnk.enc]) | (apply kG; (simp +decide only [go_sem, hlt, hw, hx, hy, hle, h5, Lnk.enc]; rfl); all_goals (intro hcnd; first | (exact absurd hcnd (by decide)) | skip))))
        exact ⟨by rw [htk, hi, h4, ← take_snoc hy], kL rfl (by simp +decide only [go_sem]) (by simp [noMem])⟩
      · have h5 : decide (x = ys[k]) = false := by simpa using h4
        have : xs ≠ ys := fun e => by
          subst e; rw [hx] at hy; injection hy with hy; exact h4 hy
        (repeat' (first | refine kA ?_ | refine kB ?_ | ((first | (refine kC (N := 26) rfl (by kernel_rfl) ?_) | (apply kJ (id := 6) (N := 26) kpm3; kernel_rfl; rfl; kernel_rfl; (repeat (first | exact Picks.nil | (apply Picks.cons; rfl)))) | refine kD ?_ | refine kE ?_ | refine kF ?_); simp +decide only [go_sem, hlt, hw, hx, hy, hle, h5, Lnk.enc]) | (apply kG; (simp +decide only [go_sem, hlt, hw, hx, hy, hle, h5, Lnk.enc]; rfl); all_goals (intro hcnd; first | (exact absurd hcnd (by decide)) | skip))))
        simp [this]
    · intro hlt hi
      rw [List.take_length, hl, List.take_length] at hi
      (repeat' (first | refine kA ?_ | refine kB ?_ | ((first | (refine kC (N := 26) rfl (by kernel_rfl) ?_) | (apply kJ (id := 6) (N := 26) kpm3; kernel_rfl; rfl; kernel_rfl; (repeat (first | exact Picks.nil | (apply Picks.cons; rfl)))) | refine kD ?_ | refine kE ?_ | refine kF ?_); simp +decide only [go_sem, hlt]) | (apply kG; (simp +decide only [go_sem, hlt]; rfl); all_goals (intro hcnd; first | (exact absurd hcnd (by decide)) | skip))))
      simp [hi]

set_option maxRecDepth 10000 in
set_option maxHeartbeats 4000000 in
theorem eqF_D (xs ys : List (List Int)) (hx : xs.length ≤ maxLen) (hxs : ∀ a ∈ xs, a.length ≤ maxLen) : DCalls Tryz.prog 87 [dv (.sl 1 (xs.map altC)), dv (.sl 1 (ys.map altC)), dv (.fn 52 [])] (dv (lb (decide (xs = ys)))) := by
  refine dcalls (N := 32) (rs := [.tmp 6]) (by kernel_rfl) Tryz.func87 rfl rfl rfl (by simp) ?_
  (repeat' (first | refine kA ?_ | refine kB ?_ | ((first | (refine kC (N := 32) rfl (by kernel_rfl) ?_) | refine kD ?_ | refine kE ?_ | refine kF ?_); simp +decide only [go_sem]) | (apply kG; (simp +decide only [go_sem]; rfl); all_goals (intro hcnd; first | (exact absurd hcnd (by decide)) | skip))))
  · have : xs ≠ ys := fun e => by subst e; simp at hcnd
    simp [this]
  · have hl : xs.length = ys.length := by simp at hcnd; omega
    refine dw_rngI xs (fun k => kn 32 [(1, dv (.sl 1 (ys.map altC))), (2, dv (.fn 52 [])), (15, dv (.sl 1 (xs.map altC))), (16, dv (li xs.length)), (17, dv (li k))] noMem) (fun k => xs.take k = ys.take k) hx (kL rfl (by simp +decide only [go_sem]) (by simp [noMem])) rfl ?_ ?_
    · intro k x hx hk hm htk hlt hw hi
      have hyk : k < ys.length := by omega
      have hy : ys[k]? = some ys[k] := List.getElem?_eq_getElem hyk
      have hS := eqI_D x ys[k] (hxs x hm)
      by_cases h4 : x = ys[k]
      · have h5 : decide (x = ys[k]) = true := by simpa using h4
        rw [h5] at hS
        (repeat' (first | refine kA ?_ | refine kB ?_ | ((first | (refine kC (N := 32) rfl (by kernel_rfl) ?_) | refine kD ?_ | refine kE ?_ | (refine kN (hS) (kP rfl) ?_) | (refine kO (hS) (kP rfl) ?_) | refine kF ?_); simp +decide only [go_sem, hlt, hw, hx, hy, altC]) | (apply kG; (simp +decide only [go_sem, hlt, hw, hx, hy, altC]; rfl); all_goals (intro hcnd; first | (exact absurd hcnd (by decide)) | skip))))
        exact ⟨by rw [htk, hi, h4, ← take_snoc hy], kL rfl (by simp +decide only [go_sem]) (by simp [noMem])⟩
      · have h5 : decide (x = ys[k]) = false := by simpa using h4
        have : xs ≠ ys := fun e => by
          subst e; rw [hx] at hy; injection hy with hy; exact h4 hy
        rw [h5] at hS
        (repeat' (first | refine kA ?_ | refine kB ?_ | ((first | (refine kC (N := 32) rfl (by kernel_rfl) ?_) | refine kD ?_ | refine kE ?_ | (refine kN (hS) (kP rfl) ?_) | (refine kO (hS) (kP rfl) ?_) | refine kF ?_); simp +decide only [go_sem, hlt, hw, hx, hy, altC]) | (apply kG; (simp +decide only [go_sem, hlt, hw, hx, hy, altC]; rfl); all_goals (intro hcnd; first | (exact absurd hcnd (by decide)) | skip))))
        simp [this]
    · intro hlt hi
      rw [List.take_length, hl, List.take_length] at hi
      (repeat' (first | refine kA ?_ | refine kB ?_ | ((first | (refine kC (N := 32) rfl (by kernel_rfl) ?_) | refine kD ?_ | refine kE ?_ | refine kF ?_); simp +decide only [go_sem, hlt]) | (apply kG; (simp +decide only [go_sem, hlt]; rfl); all_goals (intro hcnd; first | (exact absurd hcnd (by decide)) | skip))))
      simp [hi]

set_option maxRecDepth 10000 in
set_option maxHeartbeats 16000000 in
theorem same24_D (e f : Ent) : DCalls Tryz.prog 19 [.agg e.row, .agg f.row] (dv (lb (decide (e = f)))) := by
  refine dcalls_grant (p := OkE e) (by kernel_rfl) (fun w K h => ?_) fun he => ?_
  · obtain ⟨v, hv⟩ := h (.agg e.row) (by simp)
    exact okE_of hv
  have hS := sameI_D e.form f.form he.form
  have hno : ∀ {α : Type} (g : Ent → α), g e ≠ g f → decide (e = f) = false := fun g h => by simp; exact fun h2 => h (by rw [h2])
  refine dcalls (N := 145) (rs := [.tmp 4]) (by kernel_rfl) Tryz.func19 rfl rfl rfl (by simp) ?_
  rcases Bool.eq_false_or_eq_true (e.id != f.id) with c1 | c1
  · (repeat' (first | refine kA ?_ | refine kB ?_ | ((first | (refine kC (N := 145) rfl (by kernel_rfl) ?_) | (apply kJ (id := 6) (N := 145) kpm4; kernel_rfl; rfl; kernel_rfl; (repeat (first | exact Picks.nil | (apply Picks.cons; rfl)))) | (apply kJ (id := 11) (N := 145) kpm5; kernel_rfl; rfl; kernel_rfl; (repeat (first | exact Picks.nil | (apply Picks.cons; rfl)))) | (apply kJ (id := 16) (N := 145) kpm5; kernel_rfl; rfl; kernel_rfl; (repeat (first | exact Picks.nil | (apply Picks.cons; rfl)))) | (apply kJ (id := 21) (N := 145) kpm5; kernel_rfl; rfl; kernel_rfl; (repeat (first | exact Picks.nil | (apply Picks.cons; rfl)))) | refine kD ?_ | refine kE ?_ | (refine kN (hS) (kP rfl) ?_) | (refine kO (hS) (kP rfl) ?_) | refine kF ?_); simp +decide only [go_sem, c1, Ent.row]) | (apply kG; (simp +decide only [go_sem, c1, Ent.row]; rfl); all_goals (intro hcnd; first | (exact absurd hcnd (by decide)) | skip)) | ((first | refine kH ?_ ?_ | refine kI ?_ ?_) <;> (intro hcnd; simp +decide only [go_sem, hcnd, c1, Ent.row]))))
    rw [hno (fun e => e.id) (by simpa using c1)]
  rcases Bool.eq_false_or_eq_true (e.cls != f.cls) with c2 | c2
  · (repeat' (first | refine kA ?_ | refine kB ?_ | ((first | (refine kC (N := 145) rfl (by kernel_rfl) ?_) | (apply kJ (id := 6) (N := 145) kpm4; kernel_rfl; rfl; kernel_rfl; (repeat (first | exact Picks.nil | (apply Picks.cons; rfl)))) | (apply kJ (id := 11) (N := 145) kpm5; kernel_rfl; rfl; kernel_rfl; (repeat (first | exact Picks.nil | (apply Picks.cons; rfl)))) | (apply kJ (id := 16) (N := 145) kpm5; kernel_rfl; rfl; kernel_rfl; (repeat (first | exact Picks.nil | (apply Picks.cons; rfl)))) | (apply kJ (id := 21) (N := 145) kpm5; kernel_rfl; rfl; kernel_rfl; (repeat (first | exact Picks.nil | (apply Picks.cons; rfl)))) | refine kD ?_ | refine kE ?_ | (refine kN (hS) (kP rfl) ?_) | (refine kO (hS) (kP rfl) ?_) | refine kF ?_); simp +decide only [go_sem, c1, c2, Ent.row]) | (apply kG; (simp +decide only [go_sem, c1, c2, Ent.row]; rfl); all_goals (intro hcnd; first | (exact absurd hcnd (by decide)) | skip)) | ((first | refine kH ?_ ?_ | refine kI ?_ ?_) <;> (intro hcnd; simp +decide only [go_sem, hcnd, c1, c2, Ent.row]))))
    rw [hno (fun e => e.cls) (by simpa using c2)]
  rcases Bool.eq_false_or_eq_true (e.main != f.main) with c3 | c3
  · (repeat' (first | refine kA ?_ | refine kB ?_ | ((first | (refine kC (N := 145) rfl (by kernel_rfl) ?_) | (apply kJ (id := 6) (N := 145) kpm4; kernel_rfl; rfl; kernel_rfl; (repeat (first | exact Picks.nil | (apply Picks.cons; rfl)))) | (apply kJ (id := 11) (N := 145) kpm5; kernel_rfl; rfl; kernel_rfl; (repeat (first | exact Picks.nil | (apply Picks.cons; rfl)))) | (apply kJ (id := 16) (N := 145) kpm5; kernel_rfl; rfl; kernel_rfl; (repeat (first | exact Picks.nil | (apply Picks.cons; rfl)))) | (apply kJ (id := 21) (N := 145) kpm5; kernel_rfl; rfl; kernel_rfl; (repeat (first | exact Picks.nil | (apply Picks.cons; rfl)))) | refine kD ?_ | refine kE ?_ | (refine kN (hS) (kP rfl) ?_) | (refine kO (hS) (kP rfl) ?_) | refine kF ?_); simp +decide only [go_sem, c1, c2, c3, Ent.row]) | (apply kG; (simp +decide only [go_sem, c1, c2, c3, Ent.row]; rfl); all_goals (intro hcnd; first | (exact absurd hcnd (by decide)) | skip)) | ((first | refine kH ?_ ?_ | refine kI ?_ ?_) <;> (intro hcnd; simp +decide only [go_sem, hcnd, c1, c2, c3, Ent.row]))))
    rw [hno (fun e => e.main) (by simpa using c3)]
  by_cases c4 : e.form = f.form
  rotate_left
  · have d4 : decide (e.form = f.form) = false := by simpa using c4
    (repeat' (first | refine kA ?_ | refine kB ?_ | ((first | (refine kC (N := 145) rfl (by kernel_rfl) ?_) | (apply kJ (id := 6) (N := 145) kpm4; kernel_rfl; rfl; kernel_rfl; (repeat (first | exact Picks.nil | (apply Picks.cons; rfl)))) | (apply kJ (id := 11) (N := 145) kpm5; kernel_rfl; rfl; kernel_rfl; (repeat (first | exact Picks.nil | (apply Picks.cons; rfl)))) | (apply kJ (id := 16) (N := 145) kpm5; kernel_rfl; rfl; kernel_rfl; (repeat (first | exact Picks.nil | (apply Picks.cons; rfl)))) | (apply kJ (id := 21) (N := 145) kpm5; kernel_rfl; rfl; kernel_rfl; (repeat (first | exact Picks.nil | (apply Picks.cons; rfl)))) | refine kD ?_ | refine kE ?_ | (refine kN (hS) (kP rfl) ?_) | (refine kO (hS) (kP rfl) ?_) | refine kF ?_); simp +decide only [go_sem, c1, c2, c3, d4, Ent.row]) | (apply kG; (simp +decide only [go_sem, c1, c2, c3, d4, Ent.row]; rfl); all_goals (intro hcnd; first | (exact absurd hcnd (by decide)) | skip)) | ((first | refine kH ?_ ?_ | refine kI ?_ ?_) <;> (intro hcnd; simp +decide only [go_sem, hcnd, c1, c2, c3, d4, Ent.row]))))
    rw [hno (fun e => e.form) c4]
  have d4 : decide (e.form = f.form) = true := by simpa using c4
  rcases Bool.eq_false_or_eq_true ((e.alts.length : Int) != (f.alts.length : Int)) with c5 | c5
  · (repeat' (first | refine kA ?_ | refine kB ?_ | ((first | (refine kC (N := 145) rfl (by kernel_rfl) ?_) | (apply kJ (id := 6) (N := 145) kpm4; kernel_rfl; rfl; kernel_rfl; (repeat (first | exact Picks.nil | (apply Picks.cons; rfl)))) | (apply kJ (id := 11) (N := 145) kpm5; kernel_rfl; rfl; kernel_rfl; (repeat (first | exact Picks.nil | (apply Picks.cons; rfl)))) | (apply kJ (id := 16) (N := 145) kpm5; kernel_rfl; rfl; kernel_rfl; (repeat (first | exact Picks.nil | (apply Picks.cons; rfl)))) | (apply kJ (id := 21) (N := 145) kpm5; kernel_rfl; rfl; kernel_rfl; (repeat (first | exact Picks.nil | (apply Picks.cons; rfl)))) | refine kD ?_ | refine kE ?_ | (refine kN (hS) (kP rfl) ?_) | (refine kO (hS) (kP rfl) ?_) | refine kF ?_); simp +decide only [go_sem, c1, c2, c3, d4, c5, Ent.row]) | (apply kG; (simp +decide only [go_sem, c1, c2, c3, d4, c5, Ent.row]; rfl); all_goals (intro hcnd; first | (exact absurd hcnd (by decide)) | skip)) | ((first | refine kH ?_ ?_ | refine kI ?_ ?_) <;> (intro hcnd; simp +decide only [go_sem, hcnd, c1, c2, c3, d4, c5, Ent.row]))))
    rw [hno (fun e => (e.alts.length : Int)) (by simpa using c5)]
  rcases Bool.eq_false_or_eq_true ((e.senses.length : Int) != (f.senses.length : Int)) with c6 | c6
  · (repeat' (first | refine kA ?_ | refine kB ?_ | ((first | (refine kC (N := 145) rfl (by kernel_rfl) ?_) | (apply kJ (id := 6) (N := 145) kpm4; kernel_rfl; rfl; kernel_rfl; (repeat (first | exact Picks.nil | (apply Picks.cons; rfl)))) | (apply kJ (id := 11) (N := 145) kpm5; kernel_rfl; rfl; kernel_rfl; (repeat (first | exact Picks.nil | (apply Picks.cons; rfl)))) | (apply kJ (id := 16) (N := 145) kpm5; kernel_rfl; rfl; kernel_rfl; (repeat (first | exact Picks.nil | (apply Picks.cons; rfl)))) | (apply kJ (id := 21) (N := 145) kpm5; kernel_rfl; rfl; kernel_rfl; (repeat (first | exact Picks.nil | (apply Picks.cons; rfl)))) | refine kD ?_ | refine kE ?_ | (refine kN (hS) (kP rfl) ?_) | (refine kO (hS) (kP rfl) ?_) | refine kF ?_); simp +decide only [go_sem, c1, c2, c3, d4, c5, c6, Ent.row]) | (apply kG; (simp +decide only [go_sem, c1, c2, c3, d4, c5, c6, Ent.row]; rfl); all_goals (intro hcnd; first | (exact absurd hcnd (by decide)) | skip)) | ((first | refine kH ?_ ?_ | refine kI ?_ ?_) <;> (intro hcnd; simp +decide only [go_sem, hcnd, c1, c2, c3, d4, c5, c6, Ent.row]))))
    rw [hno (fun e => (e.senses.length : Int)) (by simpa using c6)]
  rcases Bool.eq_false_or_eq_true ((e.links.length : Int) != (f.links.length : Int)) with c7 | c7
  · (repeat' (first | refine kA ?_ | refine kB ?_ | ((first | (refine kC (N := 145) rfl (by kernel_rfl) ?_) | (apply kJ (id := 6) (N := 145) kpm4; kernel_rfl; rfl; kernel_rfl; (repeat (first | exact Picks.nil | (apply Picks.cons; rfl)))) | (apply kJ (id := 11) (N := 145) kpm5; kernel_rfl; rfl; kernel_rfl; (repeat (first | exact Picks.nil | (apply Picks.cons; rfl)))) | (apply kJ (id := 16) (N := 145) kpm5; kernel_rfl; rfl; kernel_rfl; (repeat (first | exact Picks.nil | (apply Picks.cons; rfl)))) | (apply kJ (id := 21) (N := 145) kpm5; kernel_rfl; rfl; kernel_rfl; (repeat (first | exact Picks.nil | (apply Picks.cons; rfl)))) | refine kD ?_ | refine kE ?_ | (refine kN (hS) (kP rfl) ?_) | (refine kO (hS) (kP rfl) ?_) | refine kF ?_); simp +decide only [go_sem, c1, c2, c3, d4, c5, c6, c7, Ent.row]) | (apply kG; (simp +decide only [go_sem, c1, c2, c3, d4, c5, c6, c7, Ent.row]; rfl); all_goals (intro hcnd; first | (exact absurd hcnd (by decide)) | skip)) | ((first | refine kH ?_ ?_ | refine kI ?_ ?_) <;> (intro hcnd; simp +decide only [go_sem, hcnd, c1, c2, c3, d4, c5, c6, c7, Ent.row]))))
    rw [hno (fun e => (e.links.length : Int)) (by simpa using c7)]
  rcases Bool.eq_false_or_eq_true ((e.refs.length : Int) != (f.refs.length : Int)) with c8 | c8
  · (repeat' (first | refine kA ?_ | refine kB ?_ | ((first | (refine kC (N := 145) rfl (by kernel_rfl) ?_) | (apply kJ (id := 6) (N := 145) kpm4; kernel_rfl; rfl; kernel_rfl; (repeat (first | exact Picks.nil | (apply Picks.cons; rfl)))) | (apply kJ (id := 11) (N := 145) kpm5; kernel_rfl; rfl; kernel_rfl; (repeat (first | exact Picks.nil | (apply Picks.cons; rfl)))) | (apply kJ (id := 16) (N := 145) kpm5; kernel_rfl; rfl; kernel_rfl; (repeat (first | exact Picks.nil | (apply Picks.cons; rfl)))) | (apply kJ (id := 21) (N := 145) kpm5; kernel_rfl; rfl; kernel_rfl; (repeat (first | exact Picks.nil | (apply Picks.cons; rfl)))) | refine kD ?_ | refine kE ?_ | (refine kN (hS) (kP rfl) ?_) | (refine kO (hS) (kP rfl) ?_) | refine kF ?_); simp +decide only [go_sem, c1, c2, c3, d4, c5, c6, c7, c8, Ent.row]) | (apply kG; (simp +decide only [go_sem, c1, c2, c3, d4, c5, c6, c7, c8, Ent.row]; rfl); all_goals (intro hcnd; first | (exact absurd hcnd (by decide)) | skip)) | ((first | refine kH ?_ ?_ | refine kI ?_ ?_) <;> (intro hcnd; simp +decide only [go_sem, hcnd, c1, c2, c3, d4, c5, c6, c7, c8, Ent.row]))))
    rw [hno (fun e => (e.refs.length : Int)) (by simpa using c8)]
  (repeat' (first | refine kA ?_ | refine kB ?_ | ((first | (refine kC (N := 145) rfl (by kernel_rfl) ?_) | (apply kJ (id := 6) (N := 145) kpm4; kernel_rfl; rfl; kernel_rfl; (repeat (first | exact Picks.nil | (apply Picks.cons; rfl)))) | (apply kJ (id := 11) (N := 145) kpm5; kernel_rfl; rfl; kernel_rfl; (repeat (first | exact Picks.nil | (apply Picks.cons; rfl)))) | (apply kJ (id := 16) (N := 145) kpm5; kernel_rfl; rfl; kernel_rfl; (repeat (first | exact Picks.nil | (apply Picks.cons; rfl)))) | (apply kJ (id := 21) (N := 145) kpm5; kernel_rfl; rfl; kernel_rfl; (repeat (first | exact Picks.nil | (apply Picks.cons; rfl)))) | refine kD ?_ | refine kE ?_ | (refine kN (hS) (kP rfl) ?_) | (refine kO (hS) (kP rfl) ?_)); simp +decide only [go_sem, c1, c2, c3, d4, c5, c6, c7, c8, Ent.row]) | (apply kG; (simp +decide only [go_sem, c1, c2, c3, d4, c5, c6, c7, c8, Ent.row]; rfl); all_goals (intro hcnd; first | (exact absurd hcnd (by decide)) | skip)) | ((first | refine kH ?_ ?_ | refine kI ?_ ?_) <;> (intro hcnd; simp +decide only [go_sem, hcnd, c1, c2, c3, d4, c5, c6, c7, c8, Ent.row]))))
  have l5 : e.alts.length = f.alts.length := by simp at c5; omega
  have l6 : e.senses.length = f.senses.length := by simp at c6; omega
  have l7 : e.links.length = f.links.length := by simp at c7; omega
  have l8 : e.refs.length = f.refs.length := by simp at c8; omega
  refine dw_rngI e.alts (fun k => kn 145 [(2, .one (.bx 2 8 0 0)), (3, .one (.bx 3 8 0 0)), (5, dv (li k))] (ml [(2, [e.row]), (3, [f.row])])) (fun k => e.alts.take k = f.alts.take k) he.alts (kM rfl (by simp +decide only [go_sem]) (by simp +decide only [go_sem, Ent.row])) rfl ?_ ?_
  · intro k x hx hk hm htk hlt hw hi
    have hyk : k < f.alts.length := by have := l5; omega
    have hy : f.alts[k]? = some f.alts[k] := List.getElem?_eq_getElem hyk
    have hne : x ≠ f.alts[k] → e.alts ≠ f.alts := fun h g => by rw [g] at hx; rw [hx] at hy; injection hy with hy; exact h hy
    have hS2 := sameI_D x f.alts[k] (he.alt x hm)
    by_cases h4 : x = f.alts[k]
    · have h5 : decide (x = f.alts[k]) = true := by simpa using h4
      rw [h5] at hS2
      (repeat' (first | refine kA ?_ | refine kB ?_ | ((first | (refine kC (N := 145) rfl (by kernel_rfl) ?_) | (apply kJ (id := 6) (N := 145) kpm4; kernel_rfl; rfl; kernel_rfl; (repeat (first | exact Picks.nil | (apply Picks.cons; rfl)))) | (apply kJ (id := 11) (N := 145) kpm5; kernel_rfl; rfl; kernel_rfl; (repeat (first | exact Picks.nil | (apply Picks.cons; rfl)))) | (apply kJ (id := 16) (N := 145) kpm5; kernel_rfl; rfl; kernel_rfl; (repeat (first | exact Picks.nil | (apply Picks.cons; rfl)))) | (apply kJ (id := 21) (N := 145) kpm5; kernel_rfl; rfl; kernel_rfl; (repeat (first | exact Picks.nil | (apply Picks.cons; rfl)))) | refine kD ?_ | refine kE ?_ | (refine kN (hS2) (kP rfl) ?_) | (refine kO (hS2) (kP rfl) ?_) | refine kF ?_); simp +decide only [go_sem, hlt, hw, hx, hy, Ent.row]) | (apply kG; (simp +decide only [go_sem, hlt, hw, hx, hy, Ent.row]; rfl); all_goals (intro hcnd; first | (exact absurd hcnd (by decide)) | skip)) | ((first | refine kH ?_ ?_ | refine kI ?_ ?_) <;> (intro hcnd; simp +decide only [go_sem, hcnd, hlt, hw, hx, hy, Ent.row]))))
      exact ⟨by rw [htk, hi, h4, ← take_snoc hy], kM rfl (by simp +decide only [go_sem]) (by simp +decide only [go_sem, Ent.row])⟩
    · have h5 : decide (x = f.alts[k]) = false := by simpa using h4
      rw [h5] at hS2
      (repeat' (first | refine kA ?_ | refine kB ?_ | ((first | (refine kC (N := 145) rfl (by kernel_rfl) ?_) | (apply kJ (id := 6) (N := 145) kpm4; kernel_rfl; rfl; kernel_rfl; (repeat (first | exact Picks.nil | (apply Picks.cons; rfl)))) | (apply kJ (id := 11) (N := 145) kpm5; kernel_rfl; rfl; kernel_rfl; (repeat (first | exact Picks.nil | (apply Picks.cons; rfl)))) | (apply kJ (id := 16) (N := 145) kpm5; kernel_rfl; rfl; kernel_rfl; (repeat (first | exact Picks.nil | (apply Picks.cons; rfl)))) | (apply kJ (id := 21) (N := 145) kpm5; kernel_rfl; rfl; kernel_rfl; (repeat (first | exact Picks.nil | (apply Picks.cons; rfl)))) | refine kD ?_ | refine kE ?_ | (refine kN (hS2) (kP rfl) ?_) | (refine kO (hS2) (kP rfl) ?_) | refine kF ?_); simp +decide only [go_sem, hlt, hw, hx, hy, Ent.row]) | (apply kG; (simp +decide only [go_sem, hlt, hw, hx, hy, Ent.row]; rfl); all_goals (intro hcnd; first | (exact absurd hcnd (by decide)) | skip)) | ((first | refine kH ?_ ?_ | refine kI ?_ ?_) <;> (intro hcnd; simp +decide only [go_sem, hcnd, hlt, hw, hx, hy, Ent.row]))))
      rw [hno (fun e => e.alts) (hne h4)]
  intro hlt hi
  rw [List.take_length, l5, List.take_length] at hi
  have q5 := hi
  (repeat' (first | refine kA ?_ | refine kB ?_ | ((first | (refine kC (N := 145) rfl (by kernel_rfl) ?_) | (apply kJ (id := 6) (N := 145) kpm4; kernel_rfl; rfl; kernel_rfl; (repeat (first | exact Picks.nil | (apply Picks.cons; rfl)))) | (apply kJ (id := 11) (N := 145) kpm5; kernel_rfl; rfl; kernel_rfl; (repeat (first | exact Picks.nil | (apply Picks.cons; rfl)))) | (apply kJ (id := 16) (N := 145) kpm5; kernel_rfl; rfl; kernel_rfl; (repeat (first | exact Picks.nil | (apply Picks.cons; rfl)))) | (apply kJ (id := 21) (N := 145) kpm5; kernel_rfl; rfl; kernel_rfl; (repeat (first | exact Picks.nil | (apply Picks.cons; rfl)))) | refine kD ?_ | refine kE ?_); simp +decide only [go_sem, hlt, Ent.row]) | (apply kG; (simp +decide only [go_sem, hlt, Ent.row]; rfl); all_goals (intro hcnd; first | (exact absurd hcnd (by decide)) | skip)) | ((first | refine kH ?_ ?_ | refine kI ?_ ?_) <;> (intro hcnd; simp +decide only [go_sem, hcnd, hlt, Ent.row]))))
  refine dw_rngI e.senses (fun k => kn 145 [(2, .one (.bx 2 8 0 0)), (3, .one (.bx 3 8 0 0)), (6, dv (li k))] (ml [(2, [e.row]), (3, [f.row])])) (fun k => e.senses.take k = f.senses.take k) he.senses (kM rfl (by simp +decide only [go_sem]) (by simp +decide only [go_sem, Ent.row])) rfl ?_ ?_
  · intro k x hx hk hm htk hlt hw hi
    have hyk : k < f.senses.length := by have := l6; omega
    have hy : f.senses[k]? = some f.senses[k] := List.getElem?_eq_getElem hyk
    have hne : x ≠ f.senses[k] → e.senses ≠ f.senses := fun h g => by rw [g] at hx; rw [hx] at hy; injection hy with hy; exact h hy
    have hle := sns_eq x f.senses[k]
    by_cases h4 : x = f.senses[k]
    · have h5 : decide (x = f.senses[k]) = true := by simpa using h4
      (repeat' (first | refine kA ?_ | refine kB ?_ | ((first | (refine kC (N := 145) rfl (by kernel_rfl) ?_) | (apply kJ (id := 6) (N := 145) kpm4; kernel_rfl; rfl; kernel_rfl; (repeat (first | exact Picks.nil | (apply Picks.cons; rfl)))) | (apply kJ (id := 11) (N := 145) kpm5; kernel_rfl; rfl; kernel_rfl; (repeat (first | exact Picks.nil | (apply Picks.cons; rfl)))) | (apply kJ (id := 16) (N := 145) kpm5; kernel_rfl; rfl; kernel_rfl; (repeat (first | exact Picks.nil | (apply Picks.cons; rfl)))) | (apply kJ (id := 21) (N := 145) kpm5; kernel_rfl; rfl; kernel_rfl; (repeat (first | exact Picks.nil | (apply Picks.cons; rfl)))) | refine kD ?_ | refine kE ?_ | refine kF ?_); simp +decide only [go_sem, hlt, hw, hx, hy, hle, h5, Sns.enc, Ent.row]) | (apply kG; (simp +decide only [go_sem, hlt, hw, hx, hy, hle, h5, Sns.enc, Ent.row]; rfl); all_goals (intro hcnd; first | (exact absurd hcnd (by decide)) | skip)) | ((first | refine kH ?_ ?_ | refine kI ?_ ?_) <;> (intro hcnd; simp +decide only [go_sem, hcnd, hlt, hw, hx, hy, hle, h5, Sns.enc, Ent.row]))))
      exact ⟨by rw [htk, hi, h4, ← take_snoc hy], kM rfl (by simp +decide only [go_sem]) (by simp +decide only [go_sem, Ent.row])⟩
    · have h5 : decide (x = f.senses[k]) = false := by simpa using h4
      (repeat' (first | refine kA ?_ | refine kB ?_ | ((first | (refine kC (N := 145) rfl (by kernel_rfl) ?_) | (apply kJ (id := 6) (N := 145) kpm4; kernel_rfl; rfl; kernel_rfl; (repeat (first | exact Picks.nil | (apply Picks.cons; rfl)))) | (apply kJ (id := 11) (N := 145) kpm5; kernel_rfl; rfl; kernel_rfl; (repeat (first | exact Picks.nil | (apply Picks.cons; rfl)))) | (apply kJ (id := 16) (N := 145) kpm5; kernel_rfl; rfl; kernel_rfl; (repeat (first | exact Picks.nil | (apply Picks.cons; rfl)))) | (apply kJ (id := 21) (N := 145) kpm5; kernel_rfl; rfl; kernel_rfl; (repeat (first | exact Picks.nil | (apply Picks.cons; rfl)))) | refine kD ?_ | refine kE ?_ | refine kF ?_); simp +decide only [go_sem, hlt, hw, hx, hy, hle, h5, Sns.enc, Ent.row]) | (apply kG; (simp +decide only [go_sem, hlt, hw, hx, hy, hle, h5, Sns.enc, Ent.row]; rfl); all_goals (intro hcnd; first | (exact absurd hcnd (by decide)) | skip)) | ((first | refine kH ?_ ?_ | refine kI ?_ ?_) <;> (intro hcnd; simp +decide only [go_sem, hcnd, hlt, hw, hx, hy, hle, h5, Sns.enc, Ent.row]))))
      rw [hno (fun e => e.senses) (hne h4)]
  intro hlt hi
  rw [List.take_length, l6, List.take_length] at hi
  have q6 := hi
  (repeat' (first | refine kA ?_ | refine kB ?_ | ((first | (refine kC (N := 145) rfl (by kernel_rfl) ?_) | (apply kJ (id := 6) (N := 145) kpm4; kernel_rfl; rfl; kernel_rfl; (repeat (first | exact Picks.nil | (apply Picks.cons; rfl)))) | (apply kJ (id := 11) (N := 145) kpm5; kernel_rfl; rfl; kernel_rfl; (repeat (first | exact Picks.nil | (apply Picks.cons; rfl)))) | (apply kJ (id := 16) (N := 145) kpm5; kernel_rfl; rfl; kernel_rfl; (repeat (first | exact Picks.nil | (apply Picks.cons; rfl)))) | (apply kJ (id := 21) (N := 145) kpm5; kernel_rfl; rfl; kernel_rfl; (repeat (first | exact Picks.nil | (apply Picks.cons; rfl)))) | refine kD ?_ | refine kE ?_); simp +decide only [go_sem, hlt, Ent.row]) | (apply kG; (simp +decide only [go_sem, hlt, Ent.row]; rfl); all_goals (intro hcnd; first | (exact absurd hcnd (by decide)) | skip)) | ((first | refine kH ?_ ?_ | refine kI ?_ ?_) <;> (intro hcnd; simp +decide only [go_sem, hcnd, hlt, Ent.row]))))
  refine dw_rngI e.links (fun k => kn 145 [(2, .one (.bx 2 8 0 0)), (3, .one (.bx 3 8 0 0)), (7, dv (li k))] (ml [(2, [e.row]), (3, [f.row])])) (fun k => e.links.take k = f.links.take k) he.links (kM rfl (by simp +decide only [go_sem]) (by simp +decide only [go_sem, Ent.row])) rfl ?_ ?_
  · intro k x hx hk hm htk hlt hw hi
    have hyk : k < f.links.length := by have := l7; omega
    have hy : f.links[k]? = some f.links[k] := List.getElem?_eq_getElem hyk
    have hne : x ≠ f.links[k] → e.links ≠ f.links := fun h g => by rw [g] at hx; rw [hx] at hy; injection hy with hy; exact h hy
    have hle := lnk_eq x f.links[k]
    by_cases h4 : x = f.links[k]
    · have h5 : decide (x = f.links[k]) = true := by simpa using h4
      (repeat' (first | refine kA ?_ | refine kB ?_ | ((first | (refine kC (N := 145) rfl (by kernel_rfl) ?_) | (apply kJ (id := 6) (N := 145) kpm4; kernel_rfl; rfl; kernel_rfl; (repeat (first | exact Picks.nil | (apply Picks.cons; rfl)))) | (apply kJ (id := 11) (N := 145) kpm5; kernel_rfl; rfl; kernel_rfl; (repeat (first | exact Picks.nil | (apply Picks.cons; rfl)))) | (apply kJ (id := 16) (N := 145) kpm5; kernel_rfl; rfl; kernel_rfl; (repeat (first | exact Picks.nil | (apply Picks.cons; rfl)))) | (apply kJ (id := 21) (N := 145) kpm5; kernel_rfl; rfl; kernel_rfl; (repeat (first | exact Picks.nil | (apply Picks.cons; rfl)))) | refine kD ?_ | refine kE ?_ | refine kF ?_); simp +decide only [go_sem, hlt, hw, hx, hy, hle, h5, Lnk.enc, Ent.row]) | (apply kG; (simp +decide only [go_sem, hlt, hw, hx, hy, hle, h5, Lnk.enc, Ent.row]; rfl); all_goals (intro hcnd; first | (exact absurd hcnd (by decide)) | skip)) | ((first | refine kH ?_ ?_ | refine kI ?_ ?_) <;> (intro hcnd; simp +decide only [go_sem, hcnd, hlt, hw, hx, hy, hle, h5, Lnk.enc, Ent.row]))))
      exact ⟨by rw [htk, hi, h4, ← take_snoc hy], kM rfl (by simp +decide only [go_sem]) (by simp +decide only [go_sem, Ent.row])⟩
    · have h5 : decide (x = f.links[k]) = false := by simpa using h4
      (repeat' (first | refine kA ?_ | refine kB ?_ | ((first | (refine kC (N := 145) rfl (by kernel_rfl) ?_) | (apply kJ (id := 6) (N := 145) kpm4; kernel_rfl; rfl; kernel_rfl; (repeat (first | exact Picks.nil | (apply Picks.cons; rfl)))) | (apply kJ (id := 11) (N := 145) kpm5; kernel_rfl; rfl; kernel_rfl; (repeat (first | exact Picks.nil | (apply Picks.cons; rfl)))) | (apply kJ (id := 16) (N := 145) kpm5; kernel_rfl; rfl; kernel_rfl; (repeat (first | exact Picks.nil | (apply Picks.cons; rfl)))) | (apply kJ (id := 21) (N := 145) kpm5; kernel_rfl; rfl; kernel_rfl; (repeat (first | exact Picks.nil | (apply Picks.cons; rfl)))) | refine kD ?_ | refine kE ?_ | refine kF ?_); simp +decide only [go_sem, hlt, hw, hx, hy, hle, h5, Lnk.enc, Ent.row]) | (apply kG; (simp +decide only [go_sem, hlt, hw, hx, hy, hle, h5, Lnk.enc, Ent.row]; rfl); all_goals (intro hcnd; first | (exact absurd hcnd (by decide)) | skip)) | ((first | refine kH ?_ ?_ | refine kI ?_ ?_) <;> (intro hcnd; simp +decide only [go_sem, hcnd, hlt, hw, hx, hy, hle, h5, Lnk.enc, Ent.row]))))
      rw [hno (fun e => e.links) (hne h4)]
  intro hlt hi
  rw [List.take_length, l7, List.take_length] at hi
  have q7 := hi
  (repeat' (first | refine kA ?_ | refine kB ?_ | ((first | (refine kC (N := 145) rfl (by kernel_rfl) ?_) | (apply kJ (id := 6) (N := 145) kpm4; kernel_rfl; rfl; kernel_rfl; (repeat (first | exact Picks.nil | (apply Picks.cons; rfl)))) | (apply kJ (id := 11) (N := 145) kpm5; kernel_rfl; rfl; kernel_rfl; (repeat (first | exact Picks.nil | (apply Picks.cons; rfl)))) | (apply kJ (id := 16) (N := 145) kpm5; kernel_rfl; rfl; kernel_rfl; (repeat (first | exact Picks.nil | (apply Picks.cons; rfl)))) | (apply kJ (id := 21) (N := 145) kpm5; kernel_rfl; rfl; kernel_rfl; (repeat (first | exact Picks.nil | (apply Picks.cons; rfl)))) | refine kD ?_ | refine kE ?_); simp +decide only [go_sem, hlt, Ent.row]) | (apply kG; (simp +decide only [go_sem, hlt, Ent.row]; rfl); all_goals (intro hcnd; first | (exact absurd hcnd (by decide)) | skip)) | ((first | refine kH ?_ ?_ | refine kI ?_ ?_) <;> (intro hcnd; simp +decide only [go_sem, hcnd, hlt, Ent.row]))))
  refine dw_rngI e.refs (fun k => kn 145 [(2, .one (.bx 2 8 0 0)), (3, .one (.bx 3 8 0 0)), (8, dv (li k))] (ml [(2, [e.row]), (3, [f.row])])) (fun k => e.refs.take k = f.refs.take k) he.refs (kM rfl (by simp +decide only [go_sem]) (by simp +decide only [go_sem, Ent.row])) rfl ?_ ?_
  · intro k x hx hk hm htk hlt hw hi
    have hyk : k < f.refs.length := by have := l8; omega
    have hy : f.refs[k]? = some f.refs[k] := List.getElem?_eq_getElem hyk
    have hne : x ≠ f.refs[k] → e.refs ≠ f.refs := fun h g => by rw [g] at hx; rw [hx] at hy; injection hy with hy; exact h hy
    have hle := lnk_eq x f.refs[k]
    by_cases h4 : x = f.refs[k]
    · have h5 : decide (x = f.refs[k]) = true := by simpa using h4
      (repeat' (first | refine kA ?_ | refine kB ?_ | ((first | (refine kC (N := 145) rfl (by kernel_rfl) ?_) | (apply kJ (id := 6) (N := 145) kpm4; kernel_rfl; rfl; kernel_rfl; (repeat (first | exact Picks.nil | (apply Picks.cons; rfl)))) | (apply kJ (id := 11) (N := 145) kpm5; kernel_rfl; rfl; kernel_rfl; (repeat (first | exact Picks.nil | (apply Picks.cons; rfl)))) | (apply kJ (id := 16) (N := 145) kpm5; kernel_rfl; rfl; kernel_rfl; (repeat (first | exact Picks.nil | (apply Picks.cons; rfl)))) | (apply kJ (id := 21) (N := 145) kpm5; kernel_rfl; rfl; kernel_rfl; (repeat (first | exact Picks.nil | (apply Picks.cons; rfl)))) | refine kD ?_ | refine kE ?_ | refine kF ?_); simp +decide only [go_sem, hlt, hw, hx, hy, hle, h5, Lnk.enc, Ent.row]) | (apply kG; (simp +decide only [go_sem, hlt, hw, hx, hy, hle, h5, Lnk.enc, Ent.row]; rfl); all_goals (intro hcnd; first | (exact absurd hcnd (by decide)) | skip)) | ((first | refine kH ?_ ?_ | refine kI ?_ ?_) <;> (intro hcnd; simp +decide only [go_sem, hcnd, hlt, hw, hx, hy, hle, h5, Lnk.enc, Ent.row]))))
      exact ⟨by rw [htk, hi, h4, ← take_snoc hy], kM rfl (by simp +decide only [go_sem]) (by simp +decide only [go_sem, Ent.row])⟩
    · have h5 : decide (x = f.refs[k]) = false := by simpa using h4
      (repeat' (first | refine kA ?_ | refine kB ?_ | ((first | (refine kC (N := 145) rfl (by kernel_rfl) ?_) | (apply kJ (id := 6) (N := 145) kpm4; kernel_rfl; rfl; kernel_rfl; (repeat (first | exact Picks.nil | (apply Picks.cons; rfl)))) | (apply kJ (id := 11) (N := 145) kpm5; kernel_rfl; rfl; kernel_rfl; (repeat (first | exact Picks.nil | (apply Picks.cons; rfl)))) | (apply kJ (id := 16) (N := 145) kpm5; kernel_rfl; rfl; kernel_rfl; (repeat (first | exact Picks.nil | (apply Picks.cons; rfl)))) | (apply kJ (id := 21) (N := 145) kpm5; kernel_rfl; rfl; kernel_rfl; (repeat (first | exact Picks.nil | (apply Picks.cons; rfl)))) | refine kD ?_ | refine kE ?_ | refine kF ?_); simp +decide only [go_sem, hlt, hw, hx, hy, hle, h5, Lnk.enc, Ent.row]) | (apply kG; (simp +decide only [go_sem, hlt, hw, hx, hy, hle, h5, Lnk.enc, Ent.row]; rfl); all_goals (intro hcnd; first | (exact absurd hcnd (by decide)) | skip)) | ((first | refine kH ?_ ?_ | refine kI ?_ ?_) <;> (intro hcnd; simp +decide only [go_sem, hcnd, hlt, hw, hx, hy, hle, h5, Lnk.enc, Ent.row]))))
      rw [hno (fun e => e.refs) (hne h4)]
  intro hlt hi
  rw [List.take_length, l8, List.take_length] at hi
  have q8 := hi
  (repeat' (first | refine kA ?_ | refine kB ?_ | ((first | (refine kC (N := 145) rfl (by kernel_rfl) ?_) | (apply kJ (id := 6) (N := 145) kpm4; kernel_rfl; rfl; kernel_rfl; (repeat (first | exact Picks.nil | (apply Picks.cons; rfl)))) | (apply kJ (id := 11) (N := 145) kpm5; kernel_rfl; rfl; kernel_rfl; (repeat (first | exact Picks.nil | (apply Picks.cons; rfl)))) | (apply kJ (id := 16) (N := 145) kpm5; kernel_rfl; rfl; kernel_rfl; (repeat (first | exact Picks.nil | (apply Picks.cons; rfl)))) | (apply kJ (id := 21) (N := 145) kpm5; kernel_rfl; rfl; kernel_rfl; (repeat (first | exact Picks.nil | (apply Picks.cons; rfl)))) | refine kD ?_ | refine kE ?_ | refine kF ?_); simp +decide only [go_sem, hlt, Ent.row]) | (apply kG; (simp +decide only [go_sem, hlt, Ent.row]; rfl); all_goals (intro hcnd; first | (exact absurd hcnd (by decide)) | skip)) | ((first | refine kH ?_ ?_ | refine kI ?_ ?_) <;> (intro hcnd; simp +decide only [go_sem, hcnd, hlt, Ent.row]))))
  have : e = f := by
    cases e; cases f
    simp at c1 c2 c3 c4 q5 q6 q7 q8
    simp [c1, c2, c3, c4, q5, q6, q7, q8]
  simp [this]

set_option maxRecDepth 10000 in
set_option maxHeartbeats 16000000 in
theorem same_D (e f : Ent) : DCalls Tryz.prog 67 [.agg e.row, .agg f.row] (dv (lb (decide (e = f)))) := by
  refine dcalls_grant (p := OkE e) (by kernel_rfl) (fun w K h => ?_) fun he => ?_
  · obtain ⟨v, hv⟩ := h (.agg e.row) (by simp)
    exact okE_of hv
  have hS := eqI_D e.form f.form he.form
  have h1 := eqF_D e.alts f.alts he.alts he.alt
  have h2 := eqS_D e.senses f.senses he.senses
  have h3 := eqL_D e.links f.links he.links
  have h4 := eqR_D e.refs f.refs he.refs
  have hno : ∀ {α : Type} (g : Ent → α), g e ≠ g f → decide (e = f) = false := fun g h => by simp; exact fun h2 => h (by rw [h2])
  refine dcalls (N := 58) (rs := [.tmp 4]) (by kernel_rfl) Tryz.func67 rfl rfl rfl (by simp) ?_
  rcases Bool.eq_false_or_eq_true (e.id != f.id) with c1 | c1
  · (repeat' (first | refine kA ?_ | refine kB ?_ | ((first | (refine kC (N := 58) rfl (by kernel_rfl) ?_) | refine kD ?_ | refine kE ?_ | (refine kN (hS) (kP rfl) ?_) | (refine kO (hS) (kP rfl) ?_) | refine kF ?_); simp +decide only [go_sem, c1, Ent.row]) | (apply kG; (simp +decide only [go_sem, c1, Ent.row]; rfl); all_goals (intro hcnd; first | (exact absurd hcnd (by decide)) | skip)) | ((first | refine kH ?_ ?_ | refine kI ?_ ?_) <;> (intro hcnd; simp +decide only [go_sem, hcnd, c1, Ent.row]))))
    rw [hno (fun e => e.id) (by simpa using c1)]
  rcases Bool.eq_false_or_eq_true (e.cls != f.cls) with c2 | c2
  · (repeat' (first | refine kA ?_ | refine kB ?_ | ((first | (refine kC (N := 58) rfl (by kernel_rfl) ?_) | refine kD ?_ | refine kE ?_ | (refine kN (hS) (kP rfl) ?_) | (refine kO (hS) (kP rfl) ?_) | refine kF ?_); simp +decide only [go_sem, c1, c2, Ent.row]) | (apply kG; (simp +decide only [go_sem, c1, c2, Ent.row]; rfl); all_goals (intro hcnd; first | (exact absurd hcnd (by decide)) | skip)) | ((first | refine kH ?_ ?_ | refine kI ?_ ?_) <;> (intro hcnd; simp +decide only [go_sem, hcnd, c1, c2, Ent.row]))))
    rw [hno (fun e => e.cls) (by simpa using c2)]
  rcases Bool.eq_false_or_eq_true (e.main != f.main) with c3 | c3
  · (repeat' (first | refine kA ?_ | refine kB ?_ | ((first | (refine kC (N := 58) rfl (by kernel_rfl) ?_) | refine kD ?_ | refine kE ?_ | (refine kN (hS) (kP rfl) ?_) | (refine kO (hS) (kP rfl) ?_) | refine kF ?_); simp +decide only [go_sem, c1, c2, c3, Ent.row]) | (apply kG; (simp +decide only [go_sem, c1, c2, c3, Ent.row]; rfl); all_goals (intro hcnd; first | (exact absurd hcnd (by decide)) | skip)) | ((first | refine kH ?_ ?_ | refine kI ?_ ?_) <;> (intro hcnd; simp +decide only [go_sem, hcnd, c1, c2, c3, Ent.row]))))
    rw [hno (fun e => e.main) (by simpa using c3)]
  by_cases c4 : e.form = f.form
  rotate_left
  · have d4 : decide (e.form = f.form) = false := by simpa using c4
    (repeat' (first | refine kA ?_ | refine kB ?_ | ((first | (refine kC (N := 58) rfl (by kernel_rfl) ?_) | refine kD ?_ | refine kE ?_ | (refine kN (hS) (kP rfl) ?_) | (refine kO (hS) (kP rfl) ?_) | refine kF ?_); simp +decide only [go_sem, c1, c2, c3, d4, Ent.row]) | (apply kG; (simp +decide only [go_sem, c1, c2, c3, d4, Ent.row]; rfl); all_goals (intro hcnd; first | (exact absurd hcnd (by decide)) | skip)) | ((first | refine kH ?_ ?_ | refine kI ?_ ?_) <;> (intro hcnd; simp +decide only [go_sem, hcnd, c1, c2, c3, d4, Ent.row]))))
    rw [hno (fun e => e.form) c4]
  have d4 : decide (e.form = f.form) = true := by simpa using c4
  by_cases c5 : e.alts = f.alts
  rotate_left
  · have d5 : decide (e.alts = f.alts) = false := by simpa using c5
    (repeat' (first | refine kA ?_ | refine kB ?_ | ((first | (refine kC (N := 58) rfl (by kernel_rfl) ?_) | refine kD ?_ | refine kE ?_ | (refine kN (hS) (kP rfl) ?_) | (refine kO (hS) (kP rfl) ?_) | (refine kN (h1) (kP rfl) ?_) | (refine kO (h1) (kP rfl) ?_) | refine kF ?_); simp +decide only [go_sem, c1, c2, c3, d4, d5, Ent.row]) | (apply kG; (simp +decide only [go_sem, c1, c2, c3, d4, d5, Ent.row]; rfl); all_goals (intro hcnd; first | (exact absurd hcnd (by decide)) | skip)) | ((first | refine kH ?_ ?_ | refine kI ?_ ?_) <;> (intro hcnd; simp +decide only [go_sem, hcnd, c1, c2, c3, d4, d5, Ent.row]))))
    rw [hno (fun e => e.alts) c5]
  have d5 : decide (e.alts = f.alts) = true := by simpa using c5
  by_cases c6 : e.senses = f.senses
  rotate_left
  · have d6 : decide (e.senses = f.senses) = false := by simpa using c6
    (repeat' (first | refine kA ?_ | refine kB ?_ | ((first | (refine kC (N := 58) rfl (by kernel_rfl) ?_) | refine kD ?_ | refine kE ?_ | (refine kN (hS) (kP rfl) ?_) | (refine kO (hS) (kP rfl) ?_) | (refine kN (h1) (kP rfl) ?_) | (refine kO (h1) (kP rfl) ?_) | (refine kN (h2) (kP rfl) ?_) | (refine kO (h2) (kP rfl) ?_) | refine kF ?_); simp +decide only [go_sem, c1, c2, c3, d4, d5, d6, Ent.row]) | (apply kG; (simp +decide only [go_sem, c1, c2, c3, d4, d5, d6, Ent.row]; rfl); all_goals (intro hcnd; first | (exact absurd hcnd (by decide)) | skip)) | ((first | refine kH ?_ ?_ | refine kI ?_ ?_) <;> (intro hcnd; simp +decide only [go_sem, hcnd, c1, c2, c3, d4, d5, d6, Ent.row]))))
    rw [hno (fun e => e.senses) c6]
  have d6 : decide (e.senses = f.senses) = true := by simpa using c6
  by_cases c7 : e.links = f.links
  rotate_left
  · have d7 : decide (e.links = f.links) = false := by simpa using c7
    (repeat' (first | refine kA ?_ | refine kB ?_ | ((first | (refine kC (N := 58) rfl (by kernel_rfl) ?_) | refine kD ?_ | refine kE ?_ | (refine kN (hS) (kP rfl) ?_) | (refine kO (hS) (kP rfl) ?_) | (refine kN (h1) (kP rfl) ?_) | (refine kO (h1) (kP rfl) ?_) | (refine kN (h2) (kP rfl) ?_) | (refine kO (h2) (kP rfl) ?_) | (refine kN (h3) (kP rfl) ?_) | (refine kO (h3) (kP rfl) ?_) | refine kF ?_); simp +decide only [go_sem, c1, c2, c3, d4, d5, d6, d7, Ent.row]) | (apply kG; (simp +decide only [go_sem, c1, c2, c3, d4, d5, d6, d7, Ent.row]; rfl); all_goals (intro hcnd; first | (exact absurd hcnd (by decide)) | skip)) | ((first | refine kH ?_ ?_ | refine kI ?_ ?_) <;> (intro hcnd; simp +decide only [go_sem, hcnd, c1, c2, c3, d4, d5, d6, d7, Ent.row]))))
    rw [hno (fun e => e.links) c7]
  have d7 : decide (e.links = f.links) = true := by simpa using c7
  (repeat' (first | refine kA ?_ | refine kB ?_ | ((first | (refine kC (N := 58) rfl (by kernel_rfl) ?_) | refine kD ?_ | refine kE ?_ | (refine kN (hS) (kP rfl) ?_) | (refine kO (hS) (kP rfl) ?_) | (refine kN (h1) (kP rfl) ?_) | (refine kO (h1) (kP rfl) ?_) | (refine kN (h2) (kP rfl) ?_) | (refine kO (h2) (kP rfl) ?_) | (refine kN (h3) (kP rfl) ?_) | (refine kO (h3) (kP rfl) ?_) | (refine kN (h4) (kP rfl) ?_) | (refine kO (h4) (kP rfl) ?_) | refine kF ?_); simp +decide only [go_sem, c1, c2, c3, d4, d5, d6, d7, Ent.row]) | (apply kG; (simp +decide only [go_sem, c1, c2, c3, d4, d5, d6, d7, Ent.row]; rfl); all_goals (intro hcnd; first | (exact absurd hcnd (by decide)) | skip)) | ((first | refine kH ?_ ?_ | refine kI ?_ ?_) <;> (intro hcnd; simp +decide only [go_sem, hcnd, c1, c2, c3, d4, d5, d6, d7, Ent.row]))))
  simp at c1 c2 c3
  have : decide (e.refs = f.refs) = decide (e = f) := by
    rw [Bool.eq_iff_iff]
    cases e; cases f
    simp at c1 c2 c3 c4 c5 c6 c7
    simp [c1, c2, c3, c4, c5, c6, c7]
  rw [this]
end Go.Proofs.YtdmmhemfnnbddaaGreatDoor

/- Entries: forms. -/
namespace Go.Proofs.YtdmmhemfnnbddaaGreatDoor
open Go.Dl
open Go.Dl renaming dw_seq → kA, dw_block → kB, dw_reg → kC, dw_skip → kD, dw_exit → kE, dw_ret → kF, dw_cond → kG, guardC_f → kH, guardC_t → kI, dw_drw → kJ, dw_weaken → kK, sub_kn → kL, sub_ml → kM
open Go.Dl.CallC renaming mk → kN, light → kO
open Go.Dl.LeL renaming of_eq → kP
attribute [local irreducible] DW DCalls ECalls wk IW

def hasA (xs : List (List Int)) (a : List Int) : Bool := xs.any fun b => decide (b = a)
def altsE (g : List Phon) (seen : List (List Int)) : List (List Int) → Int
  | [] => 0
  | a :: l => if wordE g a ≠ 0 then wordE g a else if hasA seen a = true then 8 else altsE g (seen ++ [a]) l
def formsE (g : List Phon) (e : Ent) : Int :=
  if wordE g e.form ≠ 0 then wordE g e.form else if e.cls < 1 ∨ 20 < e.cls then 21 else if 3 < e.alts.length then 11 else altsE g [e.form] e.alts

def IsA (f : FuncId) (a : List Int) : Prop := ∀ b : List Int, b.length ≤ maxLen → DCalls Tryz.prog f [dv (.sl 1 (ints b)), dv (.pt [.sl 1 (ints a)])] (dv (lb (decide (b = a))))

set_option maxRecDepth 10000 in
theorem forms1_D (a : List Int) : IsA 93 a := by
  intro b hb
  refine dcalls (N := 7) (rs := [.tmp 3]) (by kernel_rfl) Tryz.func93 rfl rfl rfl (by simp) ?_
  (repeat' (first | refine kA ?_ | refine kB ?_ | ((first | (refine kC (N := 7) rfl (by kernel_rfl) ?_) | refine kD ?_ | refine kE ?_ | (refine kN (eqI_D b a hb) (kP rfl) ?_) | (refine kO (eqI_D b a hb) (kP rfl) ?_) | refine kF ?_); simp +decide only [go_sem]) | (apply kG; (simp +decide only [go_sem]; rfl); all_goals (intro hcnd; first | (exact absurd hcnd (by decide)) | skip))))

set_option maxRecDepth 10000 in
theorem has1_D (a : List Int) : IsA 82 a := by
  intro b hb
  refine dcalls (N := 7) (rs := [.tmp 3]) (by kernel_rfl) Tryz.func82 rfl rfl rfl (by simp) ?_
  (repeat' (first | refine kA ?_ | refine kB ?_ | ((first | (refine kC (N := 7) rfl (by kernel_rfl) ?_) | refine kD ?_ | refine kE ?_ | (refine kN (eqI_D b a hb) (kP rfl) ?_) | (refine kO (eqI_D b a hb) (kP rfl) ?_) | refine kF ?_); simp +decide only [go_sem]) | (apply kG; (simp +decide only [go_sem]; rfl); all_goals (intro hcnd; first | (exact absurd hcnd (by decide)) | skip))))

set_option maxRecDepth 10000 in
set_option maxHeartbeats 2000000 in
theorem idxA_D (f : FuncId) (a : List Int) (hf : IsA f a) (xs : List (List Int)) (hl : xs.length ≤ maxLen) (hx : ∀ b ∈ xs, b.length ≤ maxLen) : DCalls Tryz.prog 107 [dv (.sl 1 (xs.map altC)), dv (.fn f [.pt [.sl 1 (ints a)]])] (dv (li (idxF (fun b => decide (b = a)) xs))) := by
  have hmax : maxLen = 9223372036854775807 := rfl
  refine dcalls (N := 19) (rs := [.tmp 4]) (by kernel_rfl) Tryz.func107 rfl rfl rfl (by simp) ?_
  (repeat (first | refine kA ?_ | refine kB ?_ | ((first | (refine kC (N := 19) rfl (by kernel_rfl) ?_) | refine kD ?_ | refine kE ?_); simp +decide only [go_sem])))
  refine dw_rngI xs (fun k => kn 19 [(0, dv (.sl 1 (xs.map altC))), (1, dv (.fn f [.pt [.sl 1 (ints a)]])), (7, dv (li xs.length)), (8, dv (li k))] noMem) (fun k => ∀ b ∈ xs.take k, decide (b = a) = false) (by omega) (kL rfl (by simp +decide only [go_sem]) (by simp [noMem])) (by simp) ?_ ?_
  · intro k b hb hk hm htk hlt hw hi
    have hc := hf b (hx b hm)
    (repeat' (first | refine kA ?_ | refine kB ?_ | ((first | (refine kC (N := 19) rfl (by kernel_rfl) ?_) | refine kD ?_ | refine kE ?_ | (refine kN (hc) (kP rfl) ?_) | (refine kO (hc) (kP rfl) ?_) | refine kF ?_); simp +decide only [go_sem, hlt, hw, hb, altC]) | (apply kG; (simp +decide only [go_sem, hlt, hw, hb, altC]; rfl); all_goals (intro hcnd; first | (exact absurd hcnd (by decide)) | skip))))
    · rw [idxF_at hb hi hcnd]
    · exact ⟨forall_snoc htk hi hcnd, kL rfl (by simp +decide only [go_sem]) (by simp [noMem])⟩
  · intro hlt hi
    rw [List.take_length] at hi
    (repeat' (first | refine kA ?_ | refine kB ?_ | ((first | (refine kC (N := 19) rfl (by kernel_rfl) ?_) | refine kD ?_ | refine kE ?_ | refine kF ?_); simp +decide only [go_sem, hlt]) | (apply kG; (simp +decide only [go_sem, hlt]; rfl); all_goals (intro hcnd; first | (exact absurd hcnd (by decide)) | skip))))
    rw [idxF_no hi]

set_option maxRecDepth 10000 in
theorem conA_D (f : FuncId) (a : List Int) (hf : IsA f a) (xs : List (List Int)) (hl : xs.length ≤ maxLen) (hx : ∀ b ∈ xs, b.length ≤ maxLen) : DCalls Tryz.prog 80 [dv (.sl 1 (xs.map altC)), dv (.fn f [.pt [.sl 1 (ints a)]])] (dv (lb (hasA xs a))) := by
  refine dcalls (N := 9) (rs := [.tmp 4]) (by kernel_rfl) Tryz.func80 rfl rfl rfl (by simp) ?_
  have h := idxF_any (fun b => decide (b = a)) xs
  (repeat' (first | refine kA ?_ | refine kB ?_ | ((first | (refine kC (N := 9) rfl (by kernel_rfl) ?_) | refine kD ?_ | refine kE ?_ | (refine kN (idxA_D f a hf xs hl hx) (kP rfl) ?_) | (refine kO (idxA_D f a hf xs hl hx) (kP rfl) ?_) | refine kF ?_); simp +decide only [go_sem, h]) | (apply kG; (simp +decide only [go_sem, h]; rfl); all_goals (intro hcnd; first | (exact absurd hcnd (by decide)) | skip))))
  rfl

set_option maxRecDepth 10000 in
set_option maxHeartbeats 8000000 in
theorem forms_D (g : List Phon) (e : Ent) : DCalls Tryz.prog 70 [.agg (invRow g), .agg e.row] (dv (li (formsE g e))) := by
  have hmax : maxLen = 9223372036854775807 := rfl
  refine dcalls_grant (p := OkE e) (by kernel_rfl) (fun w K h => ?_) fun he => ?_
  · obtain ⟨v, hv⟩ := h (.agg e.row) (by simp)
    exact okE_of hv
  have hW := word_D g e.form
  simp only [invRow] at hW
  refine dcalls (N := 53) (rs := [.tmp 4]) (by kernel_rfl) Tryz.func70 rfl rfl rfl (by simp) ?_
  rcases Bool.eq_false_or_eq_true (wordE g e.form != 0) with t1 | t1
  · have n1 : wordE g e.form ≠ 0 := by simpa using t1
    (repeat' (first | refine kA ?_ | refine kB ?_ | ((first | (refine kC (N := 53) rfl (by kernel_rfl) ?_) | refine kD ?_ | refine kE ?_ | (refine kN (hW) (kP rfl) ?_) | (refine kO (hW) (kP rfl) ?_) | refine kF ?_); simp +decide only [go_sem, t1, Ent.row, invRow]) | (apply kG; (simp +decide only [go_sem, t1, Ent.row, invRow]; rfl); all_goals (intro hcnd; first | (exact absurd hcnd (by decide)) | skip)) | ((first | refine kH ?_ ?_ | refine kI ?_ ?_) <;> (intro hcnd; simp +decide only [go_sem, hcnd, t1, Ent.row, invRow]))))
    rw [formsE, if_pos n1]
  have n1 : ¬ wordE g e.form ≠ 0 := by simpa using t1
  rcases Bool.eq_false_or_eq_true (decide (e.cls < 1)) with t2 | t2
  · have n2 := of_decide_eq_true t2
    (repeat' (first | refine kA ?_ | refine kB ?_ | ((first | (refine kC (N := 53) rfl (by kernel_rfl) ?_) | refine kD ?_ | refine kE ?_ | (refine kN (hW) (kP rfl) ?_) | (refine kO (hW) (kP rfl) ?_) | refine kF ?_); simp +decide only [go_sem, t1, t2, Ent.row, invRow]) | (apply kG; (simp +decide only [go_sem, t1, t2, Ent.row, invRow]; rfl); all_goals (intro hcnd; first | (exact absurd hcnd (by decide)) | skip)) | ((first | refine kH ?_ ?_ | refine kI ?_ ?_) <;> (intro hcnd; simp +decide only [go_sem, hcnd, t1, t2, Ent.row, invRow]))))
    rw [formsE, if_neg n1, if_pos (.inl n2)]
  have n2 := of_decide_eq_false t2
  rcases Bool.eq_false_or_eq_true (decide ((20 : Int) < e.cls)) with t3 | t3
  · have n3 := of_decide_eq_true t3
    (repeat' (first | refine kA ?_ | refine kB ?_ | ((first | (refine kC (N := 53) rfl (by kernel_rfl) ?_) | refine kD ?_ | refine kE ?_ | (refine kN (hW) (kP rfl) ?_) | (refine kO (hW) (kP rfl) ?_) | refine kF ?_); simp +decide only [go_sem, t1, t2, t3, Ent.row, invRow]) | (apply kG; (simp +decide only [go_sem, t1, t2, t3, Ent.row, invRow]; rfl); all_goals (intro hcnd; first | (exact absurd hcnd (by decide)) | skip)) | ((first | refine kH ?_ ?_ | refine kI ?_ ?_) <;> (intro hcnd; simp +decide only [go_sem, hcnd, t1, t2, t3, Ent.row, invRow]))))
    rw [formsE, if_neg n1, if_pos (.inr n3)]
  have n3 := of_decide_eq_false t3
  rcases Bool.eq_false_or_eq_true (decide ((3 : Int) < (e.alts.length : Int))) with t4 | t4
  · have n4 : 3 < e.alts.length := by have := of_decide_eq_true t4; omega
    (repeat' (first | refine kA ?_ | refine kB ?_ | ((first | (refine kC (N := 53) rfl (by kernel_rfl) ?_) | refine kD ?_ | refine kE ?_ | (refine kN (hW) (kP rfl) ?_) | (refine kO (hW) (kP rfl) ?_) | refine kF ?_); simp +decide only [go_sem, t1, t2, t3, t4, Ent.row, invRow]) | (apply kG; (simp +decide only [go_sem, t1, t2, t3, t4, Ent.row, invRow]; rfl); all_goals (intro hcnd; first | (exact absurd hcnd (by decide)) | skip)) | ((first | refine kH ?_ ?_ | refine kI ?_ ?_) <;> (intro hcnd; simp +decide only [go_sem, hcnd, t1, t2, t3, t4, Ent.row, invRow]))))
    rw [formsE, if_neg n1, if_neg (by omega), if_pos n4]
  have n4 : ¬ 3 < e.alts.length := by have := of_decide_eq_false t4; omega
  (repeat' (first | refine kA ?_ | refine kB ?_ | ((first | (refine kC (N := 53) rfl (by kernel_rfl) ?_) | refine kD ?_ | refine kE ?_ | (refine kN (hW) (kP rfl) ?_) | (refine kO (hW) (kP rfl) ?_)); simp +decide only [go_sem, t1, t2, t3, t4, Ent.row, invRow]) | (apply kG; (simp +decide only [go_sem, t1, t2, t3, t4, Ent.row, invRow]; rfl); all_goals (intro hcnd; first | (exact absurd hcnd (by decide)) | skip)) | ((first | refine kH ?_ ?_ | refine kI ?_ ?_) <;> (intro hcnd; simp +decide only [go_sem, hcnd, t1, t2, t3, t4, Ent.row, invRow]))))
  refine dw_ownX 6 6 1 (by simp +decide only [go_sem]; rfl) ?_
  refine dw_rngI e.alts (fun k => kn 53 [(2, .one (.bx 2 1 0 0)), (3, .one (.bx 3 8 0 0)), (6, .one (.own 6 1 ((e.form :: e.alts.take k).map altC))), (33, dv (.sl 1 (e.alts.map altC))), (34, dv (li e.alts.length)), (35, dv (li k))] (ml [(2, [invRow g]), (3, [e.row])])) (fun k => altsE g (e.form :: e.alts.take k) (e.alts.drop k) = formsE g e) (by omega) (kM rfl (by simp +decide only [go_sem]) (by simp +decide only [go_sem, Ent.row, invRow])) (by rw [formsE, if_neg n1, if_neg (by omega), if_neg n4]; simp) ?_ ?_
  · intro k a ha hk hm htk hlt hw hi
    rw [drop_at ha, altsE] at hi
    have hWa := word_D g a
    simp only [invRow] at hWa
    rcases Bool.eq_false_or_eq_true (wordE g a != 0) with t5 | t5
    · have n5 : wordE g a ≠ 0 := by simpa using t5
      rw [if_pos n5] at hi
      (repeat' (first | refine kA ?_ | refine kB ?_ | ((first | (refine kC (N := 53) rfl (by kernel_rfl) ?_) | refine kD ?_ | refine kE ?_ | (refine kN (hWa) (kP rfl) ?_) | (refine kO (hWa) (kP rfl) ?_) | refine kF ?_); simp +decide only [go_sem, hlt, hw, ha, t5, Ent.row, invRow, altC]) | (apply kG; (simp +decide only [go_sem, hlt, hw, ha, t5, Ent.row, invRow, altC]; rfl); all_goals (intro hcnd; first | (exact absurd hcnd (by decide)) | skip)) | ((first | refine kH ?_ ?_ | refine kI ?_ ?_) <;> (intro hcnd; simp +decide only [go_sem, hcnd, hlt, hw, ha, t5, Ent.row, invRow, altC]))))
      rw [hi]
    have n5 : ¬ wordE g a ≠ 0 := by simpa using t5
    rw [if_neg n5] at hi
    (repeat' (first | refine kA ?_ | refine kB ?_ | ((first | (refine kC (N := 53) rfl (by kernel_rfl) ?_) | refine kD ?_ | refine kE ?_ | (refine kN (hWa) (kP rfl) ?_) | (refine kO (hWa) (kP rfl) ?_)); simp +decide only [go_sem, hlt, hw, ha, t5, Ent.row, invRow, altC]) | (apply kG; (simp +decide only [go_sem, hlt, hw, ha, t5, Ent.row, invRow, altC]; rfl); all_goals (intro hcnd; first | (exact absurd hcnd (by decide)) | skip)) | ((first | refine kH ?_ ?_ | refine kI ?_ ?_) <;> (intro hcnd; simp +decide only [go_sem, hcnd, hlt, hw, ha, t5, Ent.row, invRow, altC]))))
    refine CallC.frz 8 [.sl 1 (ints a)] (by simp) (by simp +decide only [go_sem]) ?_
    simp +decide only [go_sem]
    have hal : a.length ≤ maxLen := he.alt a hm
    have hsl : (e.form :: e.alts.take k).length ≤ maxLen := by rw [List.length_cons, List.length_take]; omega
    have hsa : ∀ b ∈ e.form :: e.alts.take k, b.length ≤ maxLen := fun b hb => by
      rcases List.mem_cons.1 hb with h | h
      · rw [h]; exact he.form
      · exact he.alt b (List.mem_of_mem_take h)
    refine kN (conA_D _ a (forms1_D a) (e.form :: e.alts.take k) hsl hsa) (kP rfl) ?_
    simp +decide only [go_sem]
    have hroom : (((e.alts.take k).length + 1 + 1) * 24 ≤ 140737488355328) = True := eq_true (by rw [List.length_take]; omega)
    cases t6 : hasA (e.form :: e.alts.take k) a
    · rw [t6, if_neg (by decide)] at hi
      (repeat' (first | refine kA ?_ | refine kB ?_ | ((first | (refine kC (N := 53) rfl (by kernel_rfl) ?_) | refine kD ?_ | refine kE ?_ | refine kF ?_); simp +decide only [go_sem, hlt, hw, ha, t5, t6, hroom, Ent.row, invRow, altC]) | (apply kG; (simp +decide only [go_sem, hlt, hw, ha, t5, t6, hroom, Ent.row, invRow, altC]; rfl); all_goals (intro hcnd; first | (exact absurd hcnd (by decide)) | skip)) | ((first | refine kH ?_ ?_ | refine kI ?_ ?_) <;> (intro hcnd; simp +decide only [go_sem, hcnd, hlt, hw, ha, t5, t6, hroom, Ent.row, invRow, altC]))))
      refine ⟨by rw [htk, ← List.cons_append]; exact hi, kM rfl (by simp +decide only [go_sem, htk, List.map_append]) (by simp +decide only [go_sem, Ent.row, invRow])⟩
    · rw [t6, if_pos rfl] at hi
      (repeat' (first | refine kA ?_ | refine kB ?_ | ((first | (refine kC (N := 53) rfl (by kernel_rfl) ?_) | refine kD ?_ | refine kE ?_ | refine kF ?_); simp +decide only [go_sem, hlt, hw, ha, t5, t6, Ent.row, invRow, altC]) | (apply kG; (simp +decide only [go_sem, hlt, hw, ha, t5, t6, Ent.row, invRow, altC]; rfl); all_goals (intro hcnd; first | (exact absurd hcnd (by decide)) | skip)) | ((first | refine kH ?_ ?_ | refine kI ?_ ?_) <;> (intro hcnd; simp +decide only [go_sem, hcnd, hlt, hw, ha, t5, t6, Ent.row, invRow, altC]))))
      rw [hi]
  · intro hlt hi
    (repeat' (first | refine kA ?_ | refine kB ?_ | ((first | (refine kC (N := 53) rfl (by kernel_rfl) ?_) | refine kD ?_ | refine kE ?_ | refine kF ?_); simp +decide only [go_sem, hlt]) | (apply kG; (simp +decide only [go_sem, hlt]; rfl); all_goals (intro hcnd; first | (exact absurd hcnd (by decide)) | skip)) | ((first | refine kH ?_ ?_ | refine kI ?_ ?_) <;> (intro hcnd; simp +decide only [go_sem, hcnd, hlt]))))
    rw [← hi]; simp [altsE]
end Go.Proofs.YtdmmhemfnnbddaaGreatDoor

namespace Go.Proofs.YtdmmhemfnnbddaaGreatDoor
abbrev kpm6 : List (Nat × Go.Dl.Mode) := [(0, .light), (1, .light), (2, .light), (3, .light), (4, .light), (5, .light), (6, .step), (7, .light)]
abbrev kpm7 : List (Nat × Go.Dl.Mode) := [(0, .light), (1, .light), (2, .light), (3, .light), (4, .light), (5, .light), (6, .light), (7, .step)]
abbrev kpm8 : List (Nat × Go.Dl.Mode) := [(0, .light), (1, .light), (2, .light), (3, .light), (4, .light), (5, .light), (6, .light), (7, .light), (8, .light), (9, .light), (10, .step)]
end Go.Proofs.YtdmmhemfnnbddaaGreatDoor
/- Entries: forms, the reference's; Forms and Has. -/
namespace Go.Proofs.YtdmmhemfnnbddaaGreatDoor
open Go.Dl
open Go.Dl renaming dw_seq → kA, dw_block → kB, dw_reg → kC, dw_skip → kD, dw_exit → kE, dw_ret → kF, dw_cond → kG, guardC_f → kH, guardC_t → kI, dw_drw → kJ, dw_weaken → kK, sub_kn → kL, sub_ml → kM
open Go.Dl.CallC renaming mk → kN, light → kO
open Go.Dl.LeL renaming of_eq → kP
attribute [local irreducible] DW DCalls ECalls wk IW

theorem dec_symm {α : Type} [DecidableEq α] (a b : α) : decide (a = b) = decide (b = a) := by rw [Bool.eq_iff_iff]; simp; exact eq_comm

set_option maxRecDepth 10000 in
set_option maxHeartbeats 8000000 in
theorem rWords_D (g : List Phon) (e : Ent) : DCalls Tryz.prog 75 [.agg (invRow g), .agg e.row] (dv (li (if ident e.id = false then 2 else formsE g e))) := by
  have hmax : maxLen = 9223372036854775807 := rfl
  refine dcalls_grant (p := OkE e) (by kernel_rfl) (fun w K h => ?_) fun he => ?_
  · obtain ⟨v, hv⟩ := h (.agg e.row) (by simp)
    exact okE_of hv
  have hW := rWord_D g e.form
  have hI := rIdent_D e.id
  simp only [invRow] at hW
  refine dcalls (N := 73) (rs := [.tmp 4]) (by kernel_rfl) Tryz.func75 rfl rfl rfl (by simp) ?_
  cases t0 : ident e.id
  · rw [t0] at hI
    (repeat' (first | refine kA ?_ | refine kB ?_ | ((first | (refine kC (N := 73) rfl (by kernel_rfl) ?_) | (apply kJ (id := 13) (N := 73) kpm6; kernel_rfl; rfl; kernel_rfl; (repeat (first | exact Picks.nil | (apply Picks.cons; rfl)))) | (apply kJ (id := 16) (N := 73) kpm7; kernel_rfl; rfl; kernel_rfl; (repeat (first | exact Picks.nil | (apply Picks.cons; rfl)))) | (apply kJ (id := 21) (N := 73) kpm8; kernel_rfl; rfl; kernel_rfl; (repeat (first | exact Picks.nil | (apply Picks.cons; rfl)))) | refine kD ?_ | refine kE ?_ | (refine kN (hI) (kP rfl) ?_) | (refine kO (hI) (kP rfl) ?_) | refine kF ?_); simp +decide only [go_sem, t0, Ent.row, invRow]) | (apply kG; (simp +decide only [go_sem, t0, Ent.row, invRow]; rfl); all_goals (intro hcnd; first | (exact absurd hcnd (by decide)) | skip)) | ((first | refine kH ?_ ?_ | refine kI ?_ ?_) <;> (intro hcnd; simp +decide only [go_sem, hcnd, t0, Ent.row, invRow]))))
  rw [t0] at hI
  rw [if_neg (by decide)]
  rcases Bool.eq_false_or_eq_true (wordE g e.form != 0) with t1 | t1
  · have n1 : wordE g e.form ≠ 0 := by simpa using t1
    (repeat' (first | refine kA ?_ | refine kB ?_ | ((first | (refine kC (N := 73) rfl (by kernel_rfl) ?_) | (apply kJ (id := 13) (N := 73) kpm6; kernel_rfl; rfl; kernel_rfl; (repeat (first | exact Picks.nil | (apply Picks.cons; rfl)))) | (apply kJ (id := 16) (N := 73) kpm7; kernel_rfl; rfl; kernel_rfl; (repeat (first | exact Picks.nil | (apply Picks.cons; rfl)))) | (apply kJ (id := 21) (N := 73) kpm8; kernel_rfl; rfl; kernel_rfl; (repeat (first | exact Picks.nil | (apply Picks.cons; rfl)))) | refine kD ?_ | refine kE ?_ | (refine kN (hI) (kP rfl) ?_) | (refine kO (hI) (kP rfl) ?_) | (refine kN (hW) (kP rfl) ?_) | (refine kO (hW) (kP rfl) ?_) | refine kF ?_); simp +decide only [go_sem, t1, Ent.row, invRow]) | (apply kG; (simp +decide only [go_sem, t1, Ent.row, invRow]; rfl); all_goals (intro hcnd; first | (exact absurd hcnd (by decide)) | skip)) | ((first | refine kH ?_ ?_ | refine kI ?_ ?_) <;> (intro hcnd; simp +decide only [go_sem, hcnd, t1, Ent.row, invRow]))))
    rw [formsE, if_pos n1]
  have n1 : ¬ wordE g e.form ≠ 0 := by simpa using t1
  rcases Bool.eq_false_or_eq_true (decide (e.cls < 1)) with t2 | t2
  · have n2 := of_decide_eq_true t2
    (repeat' (first | refine kA ?_ | refine kB ?_ | ((first | (refine kC (N := 73) rfl (by kernel_rfl) ?_) | (apply kJ (id := 13) (N := 73) kpm6; kernel_rfl; rfl; kernel_rfl; (repeat (first | exact Picks.nil | (apply Picks.cons; rfl)))) | (apply kJ (id := 16) (N := 73) kpm7; kernel_rfl; rfl; kernel_rfl; (repeat (first | exact Picks.nil | (apply Picks.cons; rfl)))) | (apply kJ (id := 21) (N := 73) kpm8; kernel_rfl; rfl; kernel_rfl; (repeat (first | exact Picks.nil | (apply Picks.cons; rfl)))) | refine kD ?_ | refine kE ?_ | (refine kN (hI) (kP rfl) ?_) | (refine kO (hI) (kP rfl) ?_) | (refine kN (hW) (kP rfl) ?_) | (refine kO (hW) (kP rfl) ?_) | refine kF ?_); simp +decide only [go_sem, t1, t2, Ent.row, invRow]) | (apply kG; (simp +decide only [go_sem, t1, t2, Ent.row, invRow]; rfl); all_goals (intro hcnd; first | (exact absurd hcnd (by decide)) | skip)) | ((first | refine kH ?_ ?_ | refine kI ?_ ?_) <;> (intro hcnd; simp +decide only [go_sem, hcnd, t1, t2, Ent.row, invRow]))))
    rw [formsE, if_neg n1, if_pos (.inl n2)]
  have n2 := of_decide_eq_false t2
  rcases Bool.eq_false_or_eq_true (decide ((20 : Int) < e.cls)) with t3 | t3
  · have n3 := of_decide_eq_true t3
    (repeat' (first | refine kA ?_ | refine kB ?_ | ((first | (refine kC (N := 73) rfl (by kernel_rfl) ?_) | (apply kJ (id := 13) (N := 73) kpm6; kernel_rfl; rfl; kernel_rfl; (repeat (first | exact Picks.nil | (apply Picks.cons; rfl)))) | (apply kJ (id := 16) (N := 73) kpm7; kernel_rfl; rfl; kernel_rfl; (repeat (first | exact Picks.nil | (apply Picks.cons; rfl)))) | (apply kJ (id := 21) (N := 73) kpm8; kernel_rfl; rfl; kernel_rfl; (repeat (first | exact Picks.nil | (apply Picks.cons; rfl)))) | refine kD ?_ | refine kE ?_ | (refine kN (hI) (kP rfl) ?_) | (refine kO (hI) (kP rfl) ?_) | (refine kN (hW) (kP rfl) ?_) | (refine kO (hW) (kP rfl) ?_) | refine kF ?_); simp +decide only [go_sem, t1, t2, t3, Ent.row, invRow]) | (apply kG; (simp +decide only [go_sem, t1, t2, t3, Ent.row, invRow]; rfl); all_goals (intro hcnd; first | (exact absurd hcnd (by decide)) | skip)) | ((first | refine kH ?_ ?_ | refine kI ?_ ?_) <;> (intro hcnd; simp +decide only [go_sem, hcnd, t1, t2, t3, Ent.row, invRow]))))
    rw [formsE, if_neg n1, if_pos (.inr n3)]
  have n3 := of_decide_eq_false t3
  rcases Bool.eq_false_or_eq_true (decide ((3 : Int) < (e.alts.length : Int))) with t4 | t4
  · have n4 : 3 < e.alts.length := by have := of_decide_eq_true t4; omega
    (repeat' (first | refine kA ?_ | refine kB ?_ | ((first | (refine kC (N := 73) rfl (by kernel_rfl) ?_) | (apply kJ (id := 13) (N := 73) kpm6; kernel_rfl; rfl; kernel_rfl; (repeat (first | exact Picks.nil | (apply Picks.cons; rfl)))) | (apply kJ (id := 16) (N := 73) kpm7; kernel_rfl; rfl; kernel_rfl; (repeat (first | exact Picks.nil | (apply Picks.cons; rfl)))) | (apply kJ (id := 21) (N := 73) kpm8; kernel_rfl; rfl; kernel_rfl; (repeat (first | exact Picks.nil | (apply Picks.cons; rfl)))) | refine kD ?_ | refine kE ?_ | (refine kN (hI) (kP rfl) ?_) | (refine kO (hI) (kP rfl) ?_) | (refine kN (hW) (kP rfl) ?_) | (refine kO (hW) (kP rfl) ?_) | refine kF ?_); simp +decide only [go_sem, t1, t2, t3, t4, Ent.row, invRow]) | (apply kG; (simp +decide only [go_sem, t1, t2, t3, t4, Ent.row, invRow]; rfl); all_goals (intro hcnd; first | (exact absurd hcnd (by decide)) | skip)) | ((first | refine kH ?_ ?_ | refine kI ?_ ?_) <;> (intro hcnd; simp +decide only [go_sem, hcnd, t1, t2, t3, t4, Ent.row, invRow]))))
    rw [formsE, if_neg n1, if_neg (by omega), if_pos n4]
  have n4 : ¬ 3 < e.alts.length := by have := of_decide_eq_false t4; omega
  (repeat' (first | refine kA ?_ | refine kB ?_ | ((first | (refine kC (N := 73) rfl (by kernel_rfl) ?_) | (apply kJ (id := 13) (N := 73) kpm6; kernel_rfl; rfl; kernel_rfl; (repeat (first | exact Picks.nil | (apply Picks.cons; rfl)))) | (apply kJ (id := 16) (N := 73) kpm7; kernel_rfl; rfl; kernel_rfl; (repeat (first | exact Picks.nil | (apply Picks.cons; rfl)))) | (apply kJ (id := 21) (N := 73) kpm8; kernel_rfl; rfl; kernel_rfl; (repeat (first | exact Picks.nil | (apply Picks.cons; rfl)))) | refine kD ?_ | refine kE ?_ | (refine kN (hI) (kP rfl) ?_) | (refine kO (hI) (kP rfl) ?_) | (refine kN (hW) (kP rfl) ?_) | (refine kO (hW) (kP rfl) ?_)); simp +decide only [go_sem, t1, t2, t3, t4, Ent.row, invRow]) | (apply kG; (simp +decide only [go_sem, t1, t2, t3, t4, Ent.row, invRow]; rfl); all_goals (intro hcnd; first | (exact absurd hcnd (by decide)) | skip)) | ((first | refine kH ?_ ?_ | refine kI ?_ ?_) <;> (intro hcnd; simp +decide only [go_sem, hcnd, t1, t2, t3, t4, Ent.row, invRow]))))
  refine dw_rngI e.alts (fun k => kn 73 [(2, .one (.bx 2 1 0 0)), (3, .one (.bx 3 8 0 0)), (6, dv (li k))] (ml [(2, [invRow g]), (3, [e.row])])) (fun k => altsE g (e.form :: e.alts.take k) (e.alts.drop k) = formsE g e) (by omega) (kM rfl (by simp +decide only [go_sem]) (by simp +decide only [go_sem, Ent.row, invRow])) (by rw [formsE, if_neg n1, if_neg (by omega), if_neg n4]; simp) ?_ ?_
  · intro k a ha hk hm htk hlt hw hi
    rw [drop_at ha, altsE] at hi
    have hWa := rWord_D g a
    simp only [invRow] at hWa
    rcases Bool.eq_false_or_eq_true (wordE g a != 0) with t5 | t5
    · have n5 : wordE g a ≠ 0 := by simpa using t5
      rw [if_pos n5] at hi
      (repeat' (first | refine kA ?_ | refine kB ?_ | ((first | (refine kC (N := 73) rfl (by kernel_rfl) ?_) | (apply kJ (id := 13) (N := 73) kpm6; kernel_rfl; rfl; kernel_rfl; (repeat (first | exact Picks.nil | (apply Picks.cons; rfl)))) | (apply kJ (id := 16) (N := 73) kpm7; kernel_rfl; rfl; kernel_rfl; (repeat (first | exact Picks.nil | (apply Picks.cons; rfl)))) | (apply kJ (id := 21) (N := 73) kpm8; kernel_rfl; rfl; kernel_rfl; (repeat (first | exact Picks.nil | (apply Picks.cons; rfl)))) | refine kD ?_ | refine kE ?_ | (refine kN (hWa) (kP rfl) ?_) | (refine kO (hWa) (kP rfl) ?_) | refine kF ?_); simp +decide only [go_sem, hlt, hw, ha, t5, Ent.row, invRow, altC]) | (apply kG; (simp +decide only [go_sem, hlt, hw, ha, t5, Ent.row, invRow, altC]; rfl); all_goals (intro hcnd; first | (exact absurd hcnd (by decide)) | skip)) | ((first | refine kH ?_ ?_ | refine kI ?_ ?_) <;> (intro hcnd; simp +decide only [go_sem, hcnd, hlt, hw, ha, t5, Ent.row, invRow, altC]))))
      rw [hi]
    have n5 : ¬ wordE g a ≠ 0 := by simpa using t5
    rw [if_neg n5] at hi
    have hal : a.length ≤ maxLen := he.alt a hm
    have hS := sameI_D a e.form hal
    cases t6 : decide (a = e.form)
    rotate_left
    · have hh : hasA (e.form :: e.alts.take k) a = true := by rw [hasA, List.any_cons, dec_symm, t6]; rfl
      rw [hh, if_pos rfl] at hi
      rw [t6] at hS
      (repeat' (first | refine kA ?_ | refine kB ?_ | ((first | (refine kC (N := 73) rfl (by kernel_rfl) ?_) | (apply kJ (id := 13) (N := 73) kpm6; kernel_rfl; rfl; kernel_rfl; (repeat (first | exact Picks.nil | (apply Picks.cons; rfl)))) | (apply kJ (id := 16) (N := 73) kpm7; kernel_rfl; rfl; kernel_rfl; (repeat (first | exact Picks.nil | (apply Picks.cons; rfl)))) | (apply kJ (id := 21) (N := 73) kpm8; kernel_rfl; rfl; kernel_rfl; (repeat (first | exact Picks.nil | (apply Picks.cons; rfl)))) | refine kD ?_ | refine kE ?_ | (refine kN (hWa) (kP rfl) ?_) | (refine kO (hWa) (kP rfl) ?_) | (refine kN (hS) (kP rfl) ?_) | (refine kO (hS) (kP rfl) ?_) | refine kF ?_); simp +decide only [go_sem, hlt, hw, ha, t5, Ent.row, invRow, altC]) | (apply kG; (simp +decide only [go_sem, hlt, hw, ha, t5, Ent.row, invRow, altC]; rfl); all_goals (intro hcnd; first | (exact absurd hcnd (by decide)) | skip)) | ((first | refine kH ?_ ?_ | refine kI ?_ ?_) <;> (intro hcnd; simp +decide only [go_sem, hcnd, hlt, hw, ha, t5, Ent.row, invRow, altC]))))
      rw [hi]
    rw [t6] at hS
    have hkl : (e.alts.take k).length = k := by rw [List.length_take]; omega
    (repeat' (first | refine kA ?_ | refine kB ?_ | ((first | (refine kC (N := 73) rfl (by kernel_rfl) ?_) | (apply kJ (id := 13) (N := 73) kpm6; kernel_rfl; rfl; kernel_rfl; (repeat (first | exact Picks.nil | (apply Picks.cons; rfl)))) | (apply kJ (id := 16) (N := 73) kpm7; kernel_rfl; rfl; kernel_rfl; (repeat (first | exact Picks.nil | (apply Picks.cons; rfl)))) | (apply kJ (id := 21) (N := 73) kpm8; kernel_rfl; rfl; kernel_rfl; (repeat (first | exact Picks.nil | (apply Picks.cons; rfl)))) | refine kD ?_ | refine kE ?_ | (refine kN (hWa) (kP rfl) ?_) | (refine kO (hWa) (kP rfl) ?_) | (refine kN (hS) (kP rfl) ?_) | (refine kO (hS) (kP rfl) ?_)); simp +decide only [go_sem, hlt, hw, ha, t5, Ent.row, invRow, altC]) | (apply kG; (simp +decide only [go_sem, hlt, hw, ha, t5, Ent.row, invRow, altC]; rfl); all_goals (intro hcnd; first | (exact absurd hcnd (by decide)) | skip)) | ((first | refine kH ?_ ?_ | refine kI ?_ ?_) <;> (intro hcnd; simp +decide only [go_sem, hcnd, hlt, hw, ha, t5, Ent.row, invRow, altC]))))
    refine dw_rngI (e.alts.take k) (fun j => kn 73 [(2, .one (.bx 2 1 0 0)), (3, .one (.bx 3 8 0 0)), (6, dv (li k)), (8, dv (li j))] (ml [(2, [invRow g]), (3, [e.row])])) (fun j => ∀ b ∈ (e.alts.take k).take j, decide (b = a) = false) (by omega) (kM rfl (by simp +decide only [go_sem]) (by simp +decide only [go_sem, Ent.row, invRow])) (by simp) ?_ ?_
    · intro j b hb hjk hjm hjt hjlt hjw hji
      rw [hkl] at hjlt hjk
      have hgb : e.alts[j]? = some b := by rw [List.getElem?_take, if_pos hjk] at hb; exact hb
      have hS2 := sameI_D a b hal
      cases t7 : decide (a = b)
      · rw [t7] at hS2
        (repeat' (first | refine kA ?_ | refine kB ?_ | ((first | (refine kC (N := 73) rfl (by kernel_rfl) ?_) | (apply kJ (id := 13) (N := 73) kpm6; kernel_rfl; rfl; kernel_rfl; (repeat (first | exact Picks.nil | (apply Picks.cons; rfl)))) | (apply kJ (id := 16) (N := 73) kpm7; kernel_rfl; rfl; kernel_rfl; (repeat (first | exact Picks.nil | (apply Picks.cons; rfl)))) | (apply kJ (id := 21) (N := 73) kpm8; kernel_rfl; rfl; kernel_rfl; (repeat (first | exact Picks.nil | (apply Picks.cons; rfl)))) | refine kD ?_ | refine kE ?_ | (refine kN (hS2) (kP rfl) ?_) | (refine kO (hS2) (kP rfl) ?_) | refine kF ?_); simp +decide only [go_sem, hjlt, hjw, ha, hgb, Ent.row, invRow, altC]) | (apply kG; (simp +decide only [go_sem, hjlt, hjw, ha, hgb, Ent.row, invRow, altC]; rfl); all_goals (intro hcnd; first | (exact absurd hcnd (by decide)) | skip)) | ((first | refine kH ?_ ?_ | refine kI ?_ ?_) <;> (intro hcnd; simp +decide only [go_sem, hcnd, hjlt, hjw, ha, hgb, Ent.row, invRow, altC]))))
        exact ⟨forall_snoc hjt hji (by rw [dec_symm]; exact t7), kM rfl (by simp +decide only [go_sem]) (by simp +decide only [go_sem, Ent.row, invRow])⟩
      · have hh : hasA (e.form :: e.alts.take k) a = true := by
          rw [hasA, List.any_cons, Bool.or_eq_true]
          exact .inr (any_at hb (by rw [dec_symm]; exact t7))
        rw [hh, if_pos rfl] at hi
        rw [t7] at hS2
        (repeat' (first | refine kA ?_ | refine kB ?_ | ((first | (refine kC (N := 73) rfl (by kernel_rfl) ?_) | (apply kJ (id := 13) (N := 73) kpm6; kernel_rfl; rfl; kernel_rfl; (repeat (first | exact Picks.nil | (apply Picks.cons; rfl)))) | (apply kJ (id := 16) (N := 73) kpm7; kernel_rfl; rfl; kernel_rfl; (repeat (first | exact Picks.nil | (apply Picks.cons; rfl)))) | (apply kJ (id := 21) (N := 73) kpm8; kernel_rfl; rfl; kernel_rfl; (repeat (first | exact Picks.nil | (apply Picks.cons; rfl)))) | refine kD ?_ | refine kE ?_ | (refine kN (hS2) (kP rfl) ?_) | (refine kO (hS2) (kP rfl) ?_) | refine kF ?_); simp +decide only [go_sem, hjlt, hjw, ha, hgb, Ent.row, invRow, altC]) | (apply kG; (simp +decide only [go_sem, hjlt, hjw, ha, hgb, Ent.row, invRow, altC]; rfl); all_goals (intro hcnd; first | (exact absurd hcnd (by decide)) | skip)) | ((first | refine kH ?_ ?_ | refine kI ?_ ?_) <;> (intro hcnd; simp +decide only [go_sem, hcnd, hjlt, hjw, ha, hgb, Ent.row, invRow, altC]))))
        rw [hi]
    · intro hjlt hji
      rw [hkl] at hjlt ⊢
      have hh : hasA (e.form :: e.alts.take k) a = false := by
        rw [hasA, List.any_cons, dec_symm, t6, Bool.false_or]
        exact any_take_no hji
      rw [hh, if_neg (by decide)] at hi
      (repeat' (first | refine kA ?_ | refine kB ?_ | ((first | (refine kC (N := 73) rfl (by kernel_rfl) ?_) | (apply kJ (id := 13) (N := 73) kpm6; kernel_rfl; rfl; kernel_rfl; (repeat (first | exact Picks.nil | (apply Picks.cons; rfl)))) | (apply kJ (id := 16) (N := 73) kpm7; kernel_rfl; rfl; kernel_rfl; (repeat (first | exact Picks.nil | (apply Picks.cons; rfl)))) | (apply kJ (id := 21) (N := 73) kpm8; kernel_rfl; rfl; kernel_rfl; (repeat (first | exact Picks.nil | (apply Picks.cons; rfl)))) | refine kD ?_ | refine kE ?_ | refine kF ?_); simp +decide only [go_sem, hjlt, hw, Ent.row, invRow]) | (apply kG; (simp +decide only [go_sem, hjlt, hw, Ent.row, invRow]; rfl); all_goals (intro hcnd; first | (exact absurd hcnd (by decide)) | skip)) | ((first | refine kH ?_ ?_ | refine kI ?_ ?_) <;> (intro hcnd; simp +decide only [go_sem, hcnd, hjlt, hw, Ent.row, invRow]))))
      exact ⟨by rw [htk, ← List.cons_append]; exact hi, kM rfl (by simp +decide only [go_sem]) (by simp +decide only [go_sem, Ent.row, invRow])⟩
  · intro hlt hi
    (repeat' (first | refine kA ?_ | refine kB ?_ | ((first | (refine kC (N := 73) rfl (by kernel_rfl) ?_) | (apply kJ (id := 13) (N := 73) kpm6; kernel_rfl; rfl; kernel_rfl; (repeat (first | exact Picks.nil | (apply Picks.cons; rfl)))) | (apply kJ (id := 16) (N := 73) kpm7; kernel_rfl; rfl; kernel_rfl; (repeat (first | exact Picks.nil | (apply Picks.cons; rfl)))) | (apply kJ (id := 21) (N := 73) kpm8; kernel_rfl; rfl; kernel_rfl; (repeat (first | exact Picks.nil | (apply Picks.cons; rfl)))) | refine kD ?_ | refine kE ?_ | refine kF ?_); simp +decide only [go_sem, hlt, Ent.row, invRow]) | (apply kG; (simp +decide only [go_sem, hlt, Ent.row, invRow]; rfl); all_goals (intro hcnd; first | (exact absurd hcnd (by decide)) | skip)) | ((first | refine kH ?_ ?_ | refine kI ?_ ?_) <;> (intro hcnd; simp +decide only [go_sem, hcnd, hlt, Ent.row, invRow]))))
    rw [← hi]; simp [altsE]

def formsL (e : Ent) : List (List Int) := e.form :: e.alts

set_option maxRecDepth 10000 in
theorem formsL_D (e : Ent) (he : e.alts.length ≤ 1048576) : DCalls Tryz.prog 81 [.agg e.row] (dv (.sl 1 ((formsL e).map altC))) := by
  have hroom : ((1 + e.alts.length) * 24 ≤ 140737488355328) = True := eq_true (by omega)
  refine dcalls (N := 9) (rs := [.tmp 2]) (by kernel_rfl) Tryz.func81 rfl rfl rfl (by simp) ?_
  (repeat' (first | refine kA ?_ | refine kB ?_ | ((first | (refine kC (N := 9) rfl (by kernel_rfl) ?_) | refine kD ?_ | refine kE ?_); simp +decide only [go_sem, Ent.row, hroom]) | (apply kG; (simp +decide only [go_sem, Ent.row, hroom]; rfl); all_goals (intro hcnd; first | (exact absurd hcnd (by decide)) | skip))))
  refine dw_slot 2 (dv (.sl 1 ((formsL e).map altC))) (by simp +decide only [go_sem, formsL, List.map_cons]) ?_
  refine kF ?_; simp +decide only [go_sem]

set_option maxRecDepth 10000 in
theorem rFormsL_D (e : Ent) (he : e.alts.length ≤ 1048576) : DCalls Tryz.prog 83 [.agg e.row] (dv (.sl 1 ((formsL e).map altC))) := by
  have hroom : ((1 + e.alts.length) * 24 ≤ 140737488355328) = True := eq_true (by omega)
  refine dcalls (N := 9) (rs := [.tmp 2]) (by kernel_rfl) Tryz.func83 rfl rfl rfl (by simp) ?_
  (repeat' (first | refine kA ?_ | refine kB ?_ | ((first | (refine kC (N := 9) rfl (by kernel_rfl) ?_) | refine kD ?_ | refine kE ?_); simp +decide only [go_sem, Ent.row, hroom]) | (apply kG; (simp +decide only [go_sem, Ent.row, hroom]; rfl); all_goals (intro hcnd; first | (exact absurd hcnd (by decide)) | skip))))
  refine dw_slot 2 (dv (.sl 1 ((formsL e).map altC))) (by simp +decide only [go_sem, formsL, List.map_cons]) ?_
  refine kF ?_; simp +decide only [go_sem]

structure MidF (e : Ent) : Prop where
  alts : e.alts.length ≤ 1048576
  all : ∀ a ∈ formsL e, a.length ≤ 1048576

set_option maxRecDepth 10000 in
set_option maxHeartbeats 2000000 in
theorem has_D (e : Ent) (a : List Int) (he : MidF e) : DCalls Tryz.prog 56 [.agg e.row, dv (.sl 1 (ints a))] (dv (lb (hasA (formsL e) a))) := by
  have hmax : maxLen = 9223372036854775807 := rfl
  have hF := formsL_D e he.alts
  have hl : (formsL e).length ≤ maxLen := by have := he.alts; simp [formsL]; omega
  have hx : ∀ b ∈ formsL e, b.length ≤ maxLen := fun b hb => by have := he.all b hb; omega
  simp only [Ent.row] at hF
  refine dcalls (N := 9) (rs := [.tmp 4]) (by kernel_rfl) Tryz.func56 rfl rfl rfl (by simp) ?_
  (repeat' (first | refine kA ?_ | refine kB ?_ | ((first | (refine kC (N := 9) rfl (by kernel_rfl) ?_) | refine kD ?_ | refine kE ?_ | (refine kN (hF) (kP rfl) ?_) | (refine kO (hF) (kP rfl) ?_)); simp +decide only [go_sem, Ent.row]) | (apply kG; (simp +decide only [go_sem, Ent.row]; rfl); all_goals (intro hcnd; first | (exact absurd hcnd (by decide)) | skip))))
  refine CallC.frz 3 [.sl 1 (ints a)] (by simp) (by simp +decide only [go_sem]) ?_
  simp +decide only [go_sem]
  refine kN (conA_D _ a (has1_D a) (formsL e) hl hx) (kP rfl) ?_
  simp +decide only [go_sem]
  (repeat' (first | refine kA ?_ | refine kB ?_ | ((first | (refine kC (N := 9) rfl (by kernel_rfl) ?_) | refine kD ?_ | refine kE ?_ | refine kF ?_); simp +decide only [go_sem]) | (apply kG; (simp +decide only [go_sem]; rfl); all_goals (intro hcnd; first | (exact absurd hcnd (by decide)) | skip))))

set_option maxRecDepth 10000 in
set_option maxHeartbeats 2000000 in
theorem rHas_D (e : Ent) (a : List Int) (he : MidF e) : DCalls Tryz.prog 57 [.agg e.row, dv (.sl 1 (ints a))] (dv (lb (hasA (formsL e) a))) := by
  have hmax : maxLen = 9223372036854775807 := rfl
  have hF := rFormsL_D e he.alts
  have hl : (formsL e).length ≤ maxLen := by have := he.alts; simp [formsL]; omega
  simp only [Ent.row] at hF
  refine dcalls (N := 21) (rs := [.tmp 4]) (by kernel_rfl) Tryz.func57 rfl rfl rfl (by simp) ?_
  (repeat' (first | refine kA ?_ | refine kB ?_ | ((first | (refine kC (N := 21) rfl (by kernel_rfl) ?_) | refine kD ?_ | refine kE ?_ | (refine kN (hF) (kP rfl) ?_) | (refine kO (hF) (kP rfl) ?_)); simp +decide only [go_sem, Ent.row]) | (apply kG; (simp +decide only [go_sem, Ent.row]; rfl); all_goals (intro hcnd; first | (exact absurd hcnd (by decide)) | skip))))
  refine dw_rngI (formsL e) (fun k => kn 21 [(1, dv (.sl 1 (ints a))), (5, dv (.sl 1 ((formsL e).map altC))), (6, dv (li k))] noMem) (fun k => ∀ b ∈ (formsL e).take k, decide (b = a) = false) (by omega) (kL rfl (by simp +decide only [go_sem]) (by simp [noMem])) (by simp) ?_ ?_
  · intro k b hb hk hm htk hlt hw hi
    have hS := sameI_D b a (by have := he.all b hm; omega)
    cases t1 : decide (b = a)
    · rw [t1] at hS
      (repeat' (first | refine kA ?_ | refine kB ?_ | ((first | (refine kC (N := 21) rfl (by kernel_rfl) ?_) | refine kD ?_ | refine kE ?_ | (refine kN (hS) (kP rfl) ?_) | (refine kO (hS) (kP rfl) ?_) | refine kF ?_); simp +decide only [go_sem, hlt, hw, hb, altC]) | (apply kG; (simp +decide only [go_sem, hlt, hw, hb, altC]; rfl); all_goals (intro hcnd; first | (exact absurd hcnd (by decide)) | skip))))
      exact ⟨forall_snoc htk hi t1, kL rfl (by simp +decide only [go_sem]) (by simp [noMem])⟩
    · rw [t1] at hS
      (repeat' (first | refine kA ?_ | refine kB ?_ | ((first | (refine kC (N := 21) rfl (by kernel_rfl) ?_) | refine kD ?_ | refine kE ?_ | (refine kN (hS) (kP rfl) ?_) | (refine kO (hS) (kP rfl) ?_) | refine kF ?_); simp +decide only [go_sem, hlt, hw, hb, altC]) | (apply kG; (simp +decide only [go_sem, hlt, hw, hb, altC]; rfl); all_goals (intro hcnd; first | (exact absurd hcnd (by decide)) | skip))))
      rw [hasA, any_at hb t1]
  · intro hlt hi
    (repeat' (first | refine kA ?_ | refine kB ?_ | ((first | (refine kC (N := 21) rfl (by kernel_rfl) ?_) | refine kD ?_ | refine kE ?_ | refine kF ?_); simp +decide only [go_sem, hlt]) | (apply kG; (simp +decide only [go_sem, hlt]; rfl); all_goals (intro hcnd; first | (exact absurd hcnd (by decide)) | skip))))
    rw [hasA, any_take_no hi]
end Go.Proofs.YtdmmhemfnnbddaaGreatDoor

namespace Go.Proofs.YtdmmhemfnnbddaaGreatDoor
abbrev kpm9 : List (Nat × Go.Dl.Mode) := [(0, .light), (1, .light), (2, .light), (3, .light), (4, .light), (5, .light), (6, .light), (7, .light), (8, .light), (9, .step), (10, .light)]
end Go.Proofs.YtdmmhemfnnbddaaGreatDoor
/- Entries: senses. -/
namespace Go.Proofs.YtdmmhemfnnbddaaGreatDoor
open Go.Dl
open Go.Dl renaming dw_seq → kA, dw_block → kB, dw_reg → kC, dw_skip → kD, dw_exit → kE, dw_ret → kF, dw_cond → kG, guardC_f → kH, guardC_t → kI, dw_drw → kJ, dw_weaken → kK, sub_kn → kL, sub_ml → kM
open Go.Dl.CallC renaming mk → kN, light → kO
open Go.Dl.LeL renaming of_eq → kP
attribute [local irreducible] DW DCalls ECalls wk IW

def hasG (seen : List Sns) (g : ByteArray) : Bool := seen.any fun x => x.gloss == g
def senseE (seen : List Sns) (s : Sns) : Int := if glossB s.gloss = false then 7 else if textE s.txt ≠ 0 then textE s.txt else if hasG seen s.gloss = true then 8 else 0
def sensL (seen : List Sns) : List Sns → Int
  | [] => 0
  | s :: l => if senseE seen s ≠ 0 then senseE seen s else sensL (seen ++ [s]) l
def sensesE (e : Ent) : Int :=
  if e.main ≠ 0 ∧ ident e.main = false then 2 else if e.main = e.id then 17 else if 5 < e.senses.length then 11 else if e.senses.length = 0 ∧ e.main = 0 then 4 else sensL [] e.senses

set_option maxRecDepth 10000 in
theorem sense1_D (x s : Sns) : DCalls Tryz.prog 115 [.agg x.row, dv (.pt s.enc)] (dv (lb (x.gloss == s.gloss))) := by
  refine dcalls (N := 9) (rs := [.tmp 3]) (by kernel_rfl) Tryz.func115 rfl rfl rfl (by simp) ?_
  (repeat' (first | refine kA ?_ | refine kB ?_ | ((first | (refine kC (N := 9) rfl (by kernel_rfl) ?_) | refine kD ?_ | refine kE ?_ | refine kF ?_); simp +decide only [go_sem, Sns.row, Sns.enc]) | (apply kG; (simp +decide only [go_sem, Sns.row, Sns.enc]; rfl); all_goals (intro hcnd; first | (exact absurd hcnd (by decide)) | skip))))

set_option maxRecDepth 10000 in
set_option maxHeartbeats 2000000 in
theorem idxS_D (s : Sns) (xs : List Sns) (hl : xs.length ≤ maxLen) : DCalls Tryz.prog 84 [dv (.sl 2 (xs.map Sns.enc)), dv (.fn 115 [.pt s.enc])] (dv (li (idxF (fun x => x.gloss == s.gloss) xs))) := by
  have hmax : maxLen = 9223372036854775807 := rfl
  refine dcalls (N := 19) (rs := [.tmp 4]) (by kernel_rfl) Tryz.func84 rfl rfl rfl (by simp) ?_
  (repeat (first | refine kA ?_ | refine kB ?_ | ((first | (refine kC (N := 19) rfl (by kernel_rfl) ?_) | refine kD ?_ | refine kE ?_); simp +decide only [go_sem])))
  refine dw_rngI xs (fun k => kn 19 [(0, dv (.sl 2 (xs.map Sns.enc))), (1, dv (.fn 115 [.pt s.enc])), (7, dv (li xs.length)), (8, dv (li k))] noMem) (fun k => ∀ x ∈ xs.take k, (x.gloss == s.gloss) = false) (by omega) (kL rfl (by simp +decide only [go_sem]) (by simp [noMem])) (by simp) ?_ ?_
  · intro k x hx hk hm htk hlt hw hi
    have hc := sense1_D x s
    simp only [Sns.row] at hc
    (repeat' (first | refine kA ?_ | refine kB ?_ | ((first | (refine kC (N := 19) rfl (by kernel_rfl) ?_) | refine kD ?_ | refine kE ?_ | (refine kN (hc) (kP rfl) ?_) | (refine kO (hc) (kP rfl) ?_) | refine kF ?_); simp +decide only [go_sem, hlt, hw, hx, Sns.enc]) | (apply kG; (simp +decide only [go_sem, hlt, hw, hx, Sns.enc]; rfl); all_goals (intro hcnd; first | (exact absurd hcnd (by decide)) | skip))))
    · rw [idxF_at hx hi hcnd]
    · exact ⟨forall_snoc htk hi hcnd, kL rfl (by simp +decide only [go_sem]) (by simp [noMem])⟩
  · intro hlt hi
    rw [List.take_length] at hi
    (repeat' (first | refine kA ?_ | refine kB ?_ | ((first | (refine kC (N := 19) rfl (by kernel_rfl) ?_) | refine kD ?_ | refine kE ?_ | refine kF ?_); simp +decide only [go_sem, hlt]) | (apply kG; (simp +decide only [go_sem, hlt]; rfl); all_goals (intro hcnd; first | (exact absurd hcnd (by decide)) | skip))))
    rw [idxF_no hi]

set_option maxRecDepth 10000 in
theorem conS_D (s : Sns) (xs : List Sns) (hl : xs.length ≤ maxLen) : DCalls Tryz.prog 60 [dv (.sl 2 (xs.map Sns.enc)), dv (.fn 115 [.pt s.enc])] (dv (lb (hasG xs s.gloss))) := by
  have h := idxF_any (fun x : Sns => x.gloss == s.gloss) xs
  refine dcalls (N := 9) (rs := [.tmp 4]) (by kernel_rfl) Tryz.func60 rfl rfl rfl (by simp) ?_
  (repeat' (first | refine kA ?_ | refine kB ?_ | ((first | (refine kC (N := 9) rfl (by kernel_rfl) ?_) | refine kD ?_ | refine kE ?_ | (refine kN (idxS_D s xs hl) (kP rfl) ?_) | (refine kO (idxS_D s xs hl) (kP rfl) ?_) | refine kF ?_); simp +decide only [go_sem, h]) | (apply kG; (simp +decide only [go_sem, h]; rfl); all_goals (intro hcnd; first | (exact absurd hcnd (by decide)) | skip))))
  rfl

set_option maxRecDepth 10000 in
set_option maxHeartbeats 2000000 in
theorem sense_D (xs : List Sns) (s : Sns) (hl : xs.length ≤ maxLen) : DCalls Tryz.prog 94 [dv (.sl 2 (xs.map Sns.enc)), .agg s.row] (dv (li (senseE xs s))) := by
  have hG := gloss_D s.gloss
  have hT := text_D s.txt
  have hC := conS_D s xs hl
  simp only [Sns.enc] at hC
  refine dcalls (N := 19) (rs := [.tmp 4]) (by kernel_rfl) Tryz.func94 rfl rfl rfl (by simp) ?_
  cases t1 : glossB s.gloss
  · rw [t1] at hG
    (repeat' (first | refine kA ?_ | refine kB ?_ | ((first | (refine kC (N := 19) rfl (by kernel_rfl) ?_) | refine kD ?_ | refine kE ?_ | (refine kN (hG) (kP rfl) ?_) | (refine kO (hG) (kP rfl) ?_) | refine kF ?_); simp +decide only [go_sem, Sns.row]) | (apply kG; (simp +decide only [go_sem, Sns.row]; rfl); all_goals (intro hcnd; first | (exact absurd hcnd (by decide)) | skip))))
    rw [senseE, if_pos t1]
  rw [t1] at hG
  have n1 : ¬ glossB s.gloss = false := by rw [t1]; decide
  rcases Bool.eq_false_or_eq_true (textE s.txt != 0) with t2 | t2
  · have n2 : textE s.txt ≠ 0 := by simpa using t2
    (repeat' (first | refine kA ?_ | refine kB ?_ | ((first | (refine kC (N := 19) rfl (by kernel_rfl) ?_) | refine kD ?_ | refine kE ?_ | (refine kN (hG) (kP rfl) ?_) | (refine kO (hG) (kP rfl) ?_) | (refine kN (hT) (kP rfl) ?_) | (refine kO (hT) (kP rfl) ?_) | refine kF ?_); simp +decide only [go_sem, Sns.row, t2]) | (apply kG; (simp +decide only [go_sem, Sns.row, t2]; rfl); all_goals (intro hcnd; first | (exact absurd hcnd (by decide)) | skip))))
    rw [senseE, if_neg n1, if_pos n2]
  have n2 : ¬ textE s.txt ≠ 0 := by simpa using t2
  (repeat' (first | refine kA ?_ | refine kB ?_ | ((first | (refine kC (N := 19) rfl (by kernel_rfl) ?_) | refine kD ?_ | refine kE ?_ | (refine kN (hG) (kP rfl) ?_) | (refine kO (hG) (kP rfl) ?_) | (refine kN (hT) (kP rfl) ?_) | (refine kO (hT) (kP rfl) ?_)); simp +decide only [go_sem, Sns.row, t2]) | (apply kG; (simp +decide only [go_sem, Sns.row, t2]; rfl); all_goals (intro hcnd; first | (exact absurd hcnd (by decide)) | skip))))
  refine CallC.frz 3 s.enc (by simp [Sns.enc]) (by simp +decide only [go_sem, Sns.enc]) ?_
  simp +decide only [go_sem, Sns.enc]
  refine kN hC (kP rfl) ?_
  simp +decide only [go_sem]
  cases t3 : hasG xs s.gloss <;> (repeat' (first | refine kA ?_ | refine kB ?_ | ((first | (refine kC (N := 19) rfl (by kernel_rfl) ?_) | refine kD ?_ | refine kE ?_ | refine kF ?_); simp +decide only [go_sem, t3]) | (apply kG; (simp +decide only [go_sem, t3]; rfl); all_goals (intro hcnd; first | (exact absurd hcnd (by decide)) | skip)))) <;> rw [senseE, if_neg n1, if_neg n2, t3] <;> rfl

set_option maxRecDepth 10000 in
set_option maxHeartbeats 2000000 in
theorem rHasG_D (xs : List Sns) (g : ByteArray) (hl : xs.length ≤ maxLen) : DCalls Tryz.prog 120 [dv (.sl 2 (xs.map Sns.enc)), dv (ls g)] (dv (lb (hasG xs g))) := by
  have hmax : maxLen = 9223372036854775807 := rfl
  refine dcalls (N := 19) (rs := [.tmp 4]) (by kernel_rfl) Tryz.func120 rfl rfl rfl (by simp) ?_
  (repeat (first | refine kA ?_ | refine kB ?_ | ((first | (refine kC (N := 19) rfl (by kernel_rfl) ?_) | refine kD ?_ | refine kE ?_); simp +decide only [go_sem])))
  refine dw_rngI xs (fun k => kn 19 [(0, dv (.sl 2 (xs.map Sns.enc))), (1, dv (ls g)), (5, dv (li k))] noMem) (fun k => ∀ x ∈ xs.take k, (x.gloss == g) = false) (by omega) (kL rfl (by simp +decide only [go_sem]) (by simp [noMem])) (by simp) ?_ ?_
  · intro k x hx hk hm htk hlt hw hi
    (repeat' (first | refine kA ?_ | refine kB ?_ | ((first | (refine kC (N := 19) rfl (by kernel_rfl) ?_) | refine kD ?_ | refine kE ?_ | refine kF ?_); simp +decide only [go_sem, hlt, hw, hx, Sns.enc]) | (apply kG; (simp +decide only [go_sem, hlt, hw, hx, Sns.enc]; rfl); all_goals (intro hcnd; first | (exact absurd hcnd (by decide)) | skip))))
    · rw [hasG, any_at hx hcnd]
    · exact ⟨forall_snoc htk hi hcnd, kL rfl (by simp +decide only [go_sem]) (by simp [noMem])⟩
  · intro hlt hi
    (repeat' (first | refine kA ?_ | refine kB ?_ | ((first | (refine kC (N := 19) rfl (by kernel_rfl) ?_) | refine kD ?_ | refine kE ?_ | refine kF ?_); simp +decide only [go_sem, hlt]) | (apply kG; (simp +decide only [go_sem, hlt]; rfl); all_goals (intro hcnd; first | (exact absurd hcnd (by decide)) | skip))))
    rw [hasG, any_take_no hi]

set_option maxRecDepth 10000 in
set_option maxHeartbeats 2000000 in
theorem rSense_D (xs : List Sns) (s : Sns) (hl : xs.length ≤ maxLen) (h1 : s.gloss.size ≤ 1048576) (h2 : s.txt.size ≤ 1048576) : DCalls Tryz.prog 101 [dv (.sl 2 (xs.map Sns.enc)), .agg s.row] (dv (li (senseE xs s))) := by
  have hG := rGloss_D s.gloss h1
  have hT := rText_D s.txt
  have hC := rHasG_D xs s.gloss hl
  refine dcalls (N := 20) (rs := [.tmp 4]) (by kernel_rfl) Tryz.func101 rfl rfl rfl (by simp) ?_
  cases t1 : glossB s.gloss
  · rw [t1] at hG
    (repeat' (first | refine kA ?_ | refine kB ?_ | ((first | (refine kC (N := 20) rfl (by kernel_rfl) ?_) | refine kD ?_ | refine kE ?_ | (refine kN (hG) (kP rfl) ?_) | (refine kO (hG) (kP rfl) ?_) | refine kF ?_); simp +decide only [go_sem, Sns.row]) | (apply kG; (simp +decide only [go_sem, Sns.row]; rfl); all_goals (intro hcnd; first | (exact absurd hcnd (by decide)) | skip))))
    rw [senseE, if_pos t1]
  rw [t1] at hG
  have n1 : ¬ glossB s.gloss = false := by rw [t1]; decide
  rcases Bool.eq_false_or_eq_true (textE s.txt != 0) with t2 | t2
  · have n2 : textE s.txt ≠ 0 := by simpa using t2
    (repeat' (first | refine kA ?_ | refine kB ?_ | ((first | (refine kC (N := 20) rfl (by kernel_rfl) ?_) | refine kD ?_ | refine kE ?_ | (refine kN (hG) (kP rfl) ?_) | (refine kO (hG) (kP rfl) ?_) | (refine kN (hT) (kP rfl) ?_) | (refine kO (hT) (kP rfl) ?_) | refine kF ?_); simp +decide only [go_sem, Sns.row, t2]) | (apply kG; (simp +decide only [go_sem, Sns.row, t2]; rfl); all_goals (intro hcnd; first | (exact absurd hcnd (by decide)) | skip))))
    rw [senseE, if_neg n1, if_pos n2]
  have n2 : ¬ textE s.txt ≠ 0 := by simpa using t2
  cases t3 : hasG xs s.gloss
  · rw [t3] at hC
    (repeat' (first | refine kA ?_ | refine kB ?_ | ((first | (refine kC (N := 20) rfl (by kernel_rfl) ?_) | refine kD ?_ | refine kE ?_ | (refine kN (hG) (kP rfl) ?_) | (refine kO (hG) (kP rfl) ?_) | (refine kN (hT) (kP rfl) ?_) | (refine kO (hT) (kP rfl) ?_) | (refine kN (hC) (kP rfl) ?_) | (refine kO (hC) (kP rfl) ?_) | refine kF ?_); simp +decide only [go_sem, Sns.row, t2]) | (apply kG; (simp +decide only [go_sem, Sns.row, t2]; rfl); all_goals (intro hcnd; first | (exact absurd hcnd (by decide)) | skip))))
    rw [senseE, if_neg n1, if_neg n2, t3]; rfl
  · rw [t3] at hC
    (repeat' (first | refine kA ?_ | refine kB ?_ | ((first | (refine kC (N := 20) rfl (by kernel_rfl) ?_) | refine kD ?_ | refine kE ?_ | (refine kN (hG) (kP rfl) ?_) | (refine kO (hG) (kP rfl) ?_) | (refine kN (hT) (kP rfl) ?_) | (refine kO (hT) (kP rfl) ?_) | (refine kN (hC) (kP rfl) ?_) | (refine kO (hC) (kP rfl) ?_) | refine kF ?_); simp +decide only [go_sem, Sns.row, t2]) | (apply kG; (simp +decide only [go_sem, Sns.row, t2]; rfl); all_goals (intro hcnd; first | (exact absurd hcnd (by decide)) | skip))))
    rw [senseE, if_neg n1, if_neg n2, t3]; rfl

set_option maxRecDepth 10000 in
set_option maxHeartbeats 8000000 in
theorem senses_D (e : Ent) : DCalls Tryz.prog 71 [.agg e.row] (dv (li (sensesE e))) := by
  have hmax : maxLen = 9223372036854775807 := rfl
  refine dcalls_grant (p := OkE e ∧ True) (by kernel_rfl) (fun w K h => ?_) fun he => ?_
  · obtain ⟨v, hv⟩ := h (.agg e.row) (by simp)
    exact ⟨okE_of hv, trivial⟩
  have hI := ident_D e.main
  refine dcalls (N := 55) (rs := [.tmp 2]) (by kernel_rfl) Tryz.func71 rfl rfl rfl (by simp) ?_
  rcases Bool.eq_false_or_eq_true (e.main != 0) with t1 | t1
  · have n1 : e.main ≠ 0 := by simpa using t1
    have t5' : (e.main == 0) = false := by simpa using n1
    cases t2 : ident e.main
    · rw [t2] at hI
      (repeat' (first | refine kA ?_ | refine kB ?_ | ((first | (refine kC (N := 55) rfl (by kernel_rfl) ?_) | (apply kJ (id := 12) (N := 55) kpm1; kernel_rfl; rfl; kernel_rfl; (repeat (first | exact Picks.nil | (apply Picks.cons; rfl)))) | refine kD ?_ | refine kE ?_ | (refine kN (hI) (kP rfl) ?_) | (refine kO (hI) (kP rfl) ?_) | refine kF ?_); simp +decide only [go_sem, t1, Ent.row]) | (apply kG; (simp +decide only [go_sem, t1, Ent.row]; rfl); all_goals (intro hcnd; first | (exact absurd hcnd (by decide)) | skip)) | ((first | refine kH ?_ ?_ | refine kI ?_ ?_) <;> (intro hcnd; simp +decide only [go_sem, hcnd, t1, Ent.row]))))
      rw [sensesE, if_pos ⟨n1, t2⟩]
    rw [t2] at hI
    have m1 : ¬ (e.main ≠ 0 ∧ ident e.main = false) := by simp [t2]
    rcases Bool.eq_false_or_eq_true (e.main == e.id) with t3 | t3
    · (repeat' (first | refine kA ?_ | refine kB ?_ | ((first | (refine kC (N := 55) rfl (by kernel_rfl) ?_) | (apply kJ (id := 12) (N := 55) kpm1; kernel_rfl; rfl; kernel_rfl; (repeat (first | exact Picks.nil | (apply Picks.cons; rfl)))) | refine kD ?_ | refine kE ?_ | (refine kN (hI) (kP rfl) ?_) | (refine kO (hI) (kP rfl) ?_) | refine kF ?_); simp +decide only [go_sem, t1, t3, Ent.row]) | (apply kG; (simp +decide only [go_sem, t1, t3, Ent.row]; rfl); all_goals (intro hcnd; first | (exact absurd hcnd (by decide)) | skip)) | ((first | refine kH ?_ ?_ | refine kI ?_ ?_) <;> (intro hcnd; simp +decide only [go_sem, hcnd, t1, t3, Ent.row]))))
      rw [sensesE, if_neg m1, if_pos (by simpa using t3)]
    have m3 : ¬ e.main = e.id := by simpa using t3
    rcases Bool.eq_false_or_eq_true (decide ((5 : Int) < (e.senses.length : Int))) with t4 | t4
    · (repeat' (first | refine kA ?_ | refine kB ?_ | ((first | (refine kC (N := 55) rfl (by kernel_rfl) ?_) | (apply kJ (id := 12) (N := 55) kpm1; kernel_rfl; rfl; kernel_rfl; (repeat (first | exact Picks.nil | (apply Picks.cons; rfl)))) | refine kD ?_ | refine kE ?_ | (refine kN (hI) (kP rfl) ?_) | (refine kO (hI) (kP rfl) ?_) | refine kF ?_); simp +decide only [go_sem, t1, t3, t4, Ent.row]) | (apply kG; (simp +decide only [go_sem, t1, t3, t4, Ent.row]; rfl); all_goals (intro hcnd; first | (exact absurd hcnd (by decide)) | skip)) | ((first | refine kH ?_ ?_ | refine kI ?_ ?_) <;> (intro hcnd; simp +decide only [go_sem, hcnd, t1, t3, t4, Ent.row]))))
      rw [sensesE, if_neg m1, if_neg m3, if_pos (by have := of_decide_eq_true t4; omega)]
    have m4 : ¬ 5 < e.senses.length := by have := of_decide_eq_false t4; omega
    rcases Bool.eq_false_or_eq_true ((e.senses.length : Int) == 0) with t5 | t5
    · (repeat' (first | refine kA ?_ | refine kB ?_ | ((first | (refine kC (N := 55) rfl (by kernel_rfl) ?_) | (apply kJ (id := 12) (N := 55) kpm1; kernel_rfl; rfl; kernel_rfl; (repeat (first | exact Picks.nil | (apply Picks.cons; rfl)))) | refine kD ?_ | refine kE ?_ | (refine kN (hI) (kP rfl) ?_) | (refine kO (hI) (kP rfl) ?_)); simp +decide only [go_sem, t1, t3, t4, t5, t5', Ent.row]) | (apply kG; (simp +decide only [go_sem, t1, t3, t4, t5, t5', Ent.row]; rfl); all_goals (intro hcnd; first | (exact absurd hcnd (by decide)) | skip)) | ((first | refine kH ?_ ?_ | refine kI ?_ ?_) <;> (intro hcnd; simp +decide only [go_sem, hcnd, t1, t3, t4, t5, t5', Ent.row]))))
      refine dw_rngI e.senses (fun k => kn 55 [(1, .one (.bx 1 8 0 0)), (38, dv (.sl 2 (e.senses.map Sns.enc))), (39, dv (li e.senses.length)), (40, dv (li k))] (ml [(1, [e.row])])) (fun k => sensL (e.senses.take k) (e.senses.drop k) = sensesE e) he.1.senses (kM rfl (by simp +decide only [go_sem]) (by simp +decide only [go_sem, Ent.row])) (by rw [sensesE, if_neg m1, if_neg m3, if_neg m4, if_neg (by simp [n1])]; simp) ?_ ?_
      · intro k s hs hk hm htk hlt hw hi
        rw [drop_at hs, sensL] at hi
        have hkm : (k ≤ e.senses.length) = True := eq_true (by omega)
        have hz : (0 ≤ k) = True := eq_true (Nat.zero_le k)
        have htm : List.take k (e.senses.map Sns.enc) = (e.senses.take k).map Sns.enc := (List.map_take ..).symm
        have hkl : (e.senses.take k).length ≤ maxLen := by rw [List.length_take]; have := he.1.senses; omega
        have hS := sense_D (e.senses.take k) s hkl
        simp only [Sns.row] at hS
        rcases Bool.eq_false_or_eq_true (senseE (e.senses.take k) s != 0) with t6 | t6
        · have n6 : senseE (e.senses.take k) s ≠ 0 := by simpa using t6
          rw [if_pos n6] at hi
          (repeat' (first | refine kA ?_ | refine kB ?_ | ((first | (refine kC (N := 55) rfl (by kernel_rfl) ?_) | (apply kJ (id := 12) (N := 55) kpm1; kernel_rfl; rfl; kernel_rfl; (repeat (first | exact Picks.nil | (apply Picks.cons; rfl)))) | refine kD ?_ | refine kE ?_ | (refine kN (hS) (kP rfl) ?_) | (refine kO (hS) (kP rfl) ?_) | refine kF ?_); simp +decide only [go_sem, hlt, hw, hs, t6, hkm, hz, htm, List.drop_zero, Int.toNat_natCast, Ent.row, Sns.enc]) | (apply kG; (simp +decide only [go_sem, hlt, hw, hs, t6, hkm, hz, htm, List.drop_zero, Int.toNat_natCast, Ent.row, Sns.enc]; rfl); all_goals (intro hcnd; first | (exact absurd hcnd (by decide)) | skip)) | ((first | refine kH ?_ ?_ | refine kI ?_ ?_) <;> (intro hcnd; simp +decide only [go_sem, hcnd, hlt, hw, hs, t6, hkm, hz, htm, List.drop_zero, Int.toNat_natCast, Ent.row, Sns.enc]))))
          rw [hi]
        · have n6 : ¬ senseE (e.senses.take k) s ≠ 0 := by simpa using t6
          rw [if_neg n6] at hi
          (repeat' (first | refine kA ?_ | refine kB ?_ | ((first | (refine kC (N := 55) rfl (by kernel_rfl) ?_) | (apply kJ (id := 12) (N := 55) kpm1; kernel_rfl; rfl; kernel_rfl; (repeat (first | exact Picks.nil | (apply Picks.cons; rfl)))) | refine kD ?_ | refine kE ?_ | (refine kN (hS) (kP rfl) ?_) | (refine kO (hS) (kP rfl) ?_) | refine kF ?_); simp +decide only [go_sem, hlt, hw, hs, t6, hkm, hz, htm, List.drop_zero, Int.toNat_natCast, Ent.row, Sns.enc]) | (apply kG; (simp +decide only [go_sem, hlt, hw, hs, t6, hkm, hz, htm, List.drop_zero, Int.toNat_natCast, Ent.row, Sns.enc]; rfl); all_goals (intro hcnd; first | (exact absurd hcnd (by decide)) | skip)) | ((first | refine kH ?_ ?_ | refine kI ?_ ?_) <;> (intro hcnd; simp +decide only [go_sem, hcnd, hlt, hw, hs, t6, hkm, hz, htm, List.drop_zero, Int.toNat_natCast, Ent.row, Sns.enc]))))
          exact ⟨by rw [htk]; exact hi, kM rfl (by simp +decide only [go_sem]) (by simp +decide only [go_sem, Ent.row])⟩
      · intro hlt hi
        (repeat' (first | refine kA ?_ | refine kB ?_ | ((first | (refine kC (N := 55) rfl (by kernel_rfl) ?_) | (apply kJ (id := 12) (N := 55) kpm1; kernel_rfl; rfl; kernel_rfl; (repeat (first | exact Picks.nil | (apply Picks.cons; rfl)))) | refine kD ?_ | refine kE ?_ | refine kF ?_); simp +decide only [go_sem, hlt, Ent.row]) | (apply kG; (simp +decide only [go_sem, hlt, Ent.row]; rfl); all_goals (intro hcnd; first | (exact absurd hcnd (by decide)) | skip)) | ((first | refine kH ?_ ?_ | refine kI ?_ ?_) <;> (intro hcnd; simp +decide only [go_sem, hcnd, hlt, Ent.row]))))
        rw [← hi]; simp [sensL]
    · (repeat' (first | refine kA ?_ | refine kB ?_ | ((first | (refine kC (N := 55) rfl (by kernel_rfl) ?_) | (apply kJ (id := 12) (N := 55) kpm1; kernel_rfl; rfl; kernel_rfl; (repeat (first | exact Picks.nil | (apply Picks.cons; rfl)))) | refine kD ?_ | refine kE ?_ | (refine kN (hI) (kP rfl) ?_) | (refine kO (hI) (kP rfl) ?_)); simp +decide only [go_sem, t1, t3, t4, t5, t5', Ent.row]) | (apply kG; (simp +decide only [go_sem, t1, t3, t4, t5, t5', Ent.row]; rfl); all_goals (intro hcnd; first | (exact absurd hcnd (by decide)) | skip)) | ((first | refine kH ?_ ?_ | refine kI ?_ ?_) <;> (intro hcnd; simp +decide only [go_sem, hcnd, t1, t3, t4, t5, t5', Ent.row]))))
      refine dw_rngI e.senses (fun k => kn 55 [(1, .one (.bx 1 8 0 0)), (38, dv (.sl 2 (e.senses.map Sns.enc))), (39, dv (li e.senses.length)), (40, dv (li k))] (ml [(1, [e.row])])) (fun k => sensL (e.senses.take k) (e.senses.drop k) = sensesE e) he.1.senses (kM rfl (by simp +decide only [go_sem]) (by simp +decide only [go_sem, Ent.row])) (by rw [sensesE, if_neg m1, if_neg m3, if_neg m4, if_neg (by simp [n1])]; simp) ?_ ?_
      · intro k s hs hk hm htk hlt hw hi
        rw [drop_at hs, sensL] at hi
        have hkm : (k ≤ e.senses.length) = True := eq_true (by omega)
        have hz : (0 ≤ k) = True := eq_true (Nat.zero_le k)
        have htm : List.take k (e.senses.map Sns.enc) = (e.senses.take k).map Sns.enc := (List.map_take ..).symm
        have hkl : (e.senses.take k).length ≤ maxLen := by rw [List.length_take]; have := he.1.senses; omega
        have hS := sense_D (e.senses.take k) s hkl
        simp only [Sns.row] at hS
        rcases Bool.eq_false_or_eq_true (senseE (e.senses.take k) s != 0) with t6 | t6
        · have n6 : senseE (e.senses.take k) s ≠ 0 := by simpa using t6
          rw [if_pos n6] at hi
          (repeat' (first | refine kA ?_ | refine kB ?_ | ((first | (refine kC (N := 55) rfl (by kernel_rfl) ?_) | (apply kJ (id := 12) (N := 55) kpm1; kernel_rfl; rfl; kernel_rfl; (repeat (first | exact Picks.nil | (apply Picks.cons; rfl)))) | refine kD ?_ | refine kE ?_ | (refine kN (hS) (kP rfl) ?_) | (refine kO (hS) (kP rfl) ?_) | refine kF ?_); simp +decide only [go_sem, hlt, hw, hs, t6, hkm, hz, htm, List.drop_zero, Int.toNat_natCast, Ent.row, Sns.enc]) | (apply kG; (simp +decide only [go_sem, hlt, hw, hs, t6, hkm, hz, htm, List.drop_zero, Int.toNat_natCast, Ent.row, Sns.enc]; rfl); all_goals (intro hcnd; first | (exact absurd hcnd (by decide)) | skip)) | ((first | refine kH ?_ ?_ | refine kI ?_ ?_) <;> (intro hcnd; simp +decide only [go_sem, hcnd, hlt, hw, hs, t6, hkm, hz, htm, List.drop_zero, Int.toNat_natCast, Ent.row, Sns.enc]))))
          rw [hi]
        · have n6 : ¬ senseE (e.senses.take k) s ≠ 0 := by simpa using t6
          rw [if_neg n6] at hi
          (repeat' (first | refine kA ?_ | refine kB ?_ | ((first | (refine kC (N := 55) rfl (by kernel_rfl) ?_) | (apply kJ (id := 12) (N := 55) kpm1; kernel_rfl; rfl; kernel_rfl; (repeat (first | exact Picks.nil | (apply Picks.cons; rfl)))) | refine kD ?_ | refine kE ?_ | (refine kN (hS) (kP rfl) ?_) | (refine kO (hS) (kP rfl) ?_) | refine kF ?_); simp +decide only [go_sem, hlt, hw, hs, t6, hkm, hz, htm, List.drop_zero, Int.toNat_natCast, Ent.row, Sns.enc]) | (apply kG; (simp +decide only [go_sem, hlt, hw, hs, t6, hkm, hz, htm, List.drop_zero, Int.toNat_natCast, Ent.row, Sns.enc]; rfl); all_goals (intro hcnd; first | (exact absurd hcnd (by decide)) | skip)) | ((first | refine kH ?_ ?_ | refine kI ?_ ?_) <;> (intro hcnd; simp +decide only [go_sem, hcnd, hlt, hw, hs, t6, hkm, hz, htm, List.drop_zero, Int.toNat_natCast, Ent.row, Sns.enc]))))
          exact ⟨by rw [htk]; exact hi, kM rfl (by simp +decide only [go_sem]) (by simp +decide only [go_sem, Ent.row])⟩
      · intro hlt hi
        (repeat' (first | refine kA ?_ | refine kB ?_ | ((first | (refine kC (N := 55) rfl (by kernel_rfl) ?_) | (apply kJ (id := 12) (N := 55) kpm1; kernel_rfl; rfl; kernel_rfl; (repeat (first | exact Picks.nil | (apply Picks.cons; rfl)))) | refine kD ?_ | refine kE ?_ | refine kF ?_); simp +decide only [go_sem, hlt, Ent.row]) | (apply kG; (simp +decide only [go_sem, hlt, Ent.row]; rfl); all_goals (intro hcnd; first | (exact absurd hcnd (by decide)) | skip)) | ((first | refine kH ?_ ?_ | refine kI ?_ ?_) <;> (intro hcnd; simp +decide only [go_sem, hcnd, hlt, Ent.row]))))
        rw [← hi]; simp [sensL]
  · have n1 : e.main = 0 := by simpa using t1
    have t5' : (e.main == 0) = true := by simpa using n1
    have m1 : ¬ (e.main ≠ 0 ∧ ident e.main = false) := by simp [n1]
    rcases Bool.eq_false_or_eq_true (e.main == e.id) with t3 | t3
    · (repeat' (first | refine kA ?_ | refine kB ?_ | ((first | (refine kC (N := 55) rfl (by kernel_rfl) ?_) | (apply kJ (id := 12) (N := 55) kpm1; kernel_rfl; rfl; kernel_rfl; (repeat (first | exact Picks.nil | (apply Picks.cons; rfl)))) | refine kD ?_ | refine kE ?_ | refine kF ?_); simp +decide only [go_sem, t1, t3, Ent.row]) | (apply kG; (simp +decide only [go_sem, t1, t3, Ent.row]; rfl); all_goals (intro hcnd; first | (exact absurd hcnd (by decide)) | skip)) | ((first | refine kH ?_ ?_ | refine kI ?_ ?_) <;> (intro hcnd; simp +decide only [go_sem, hcnd, t1, t3, Ent.row]))))
      rw [sensesE, if_neg m1, if_pos (by simpa using t3)]
    have m3 : ¬ e.main = e.id := by simpa using t3
    rcases Bool.eq_false_or_eq_true (decide ((5 : Int) < (e.senses.length : Int))) with t4 | t4
    · (repeat' (first | refine kA ?_ | refine kB ?_ | ((first | (refine kC (N := 55) rfl (by kernel_rfl) ?_) | (apply kJ (id := 12) (N := 55) kpm1; kernel_rfl; rfl; kernel_rfl; (repeat (first | exact Picks.nil | (apply Picks.cons; rfl)))) | refine kD ?_ | refine kE ?_ | refine kF ?_); simp +decide only [go_sem, t1, t3, t4, Ent.row]) | (apply kG; (simp +decide only [go_sem, t1, t3, t4, Ent.row]; rfl); all_goals (intro hcnd; first | (exact absurd hcnd (by decide)) | skip)) | ((first | refine kH ?_ ?_ | refine kI ?_ ?_) <;> (intro hcnd; simp +decide only [go_sem, hcnd, t1, t3, t4, Ent.row]))))
      rw [sensesE, if_neg m1, if_neg m3, if_pos (by have := of_decide_eq_true t4; omega)]
    have m4 : ¬ 5 < e.senses.length := by have := of_decide_eq_false t4; omega
    rcases Bool.eq_false_or_eq_true ((e.senses.length : Int) == 0) with t5 | t5
    · have n5 : e.senses.length = 0 := by have := beq_iff_eq.1 t5; omega
      (repeat' (first | refine kA ?_ | refine kB ?_ | ((first | (refine kC (N := 55) rfl (by kernel_rfl) ?_) | (apply kJ (id := 12) (N := 55) kpm1; kernel_rfl; rfl; kernel_rfl; (repeat (first | exact Picks.nil | (apply Picks.cons; rfl)))) | refine kD ?_ | refine kE ?_ | refine kF ?_); simp +decide only [go_sem, t1, t3, t4, t5, t5', Ent.row]) | (apply kG; (simp +decide only [go_sem, t1, t3, t4, t5, t5', Ent.row]; rfl); all_goals (intro hcnd; first | (exact absurd hcnd (by decide)) | skip)) | ((first | refine kH ?_ ?_ | refine kI ?_ ?_) <;> (intro hcnd; simp +decide only [go_sem, hcnd, t1, t3, t4, t5, t5', Ent.row]))))
      rw [sensesE, if_neg m1, if_neg m3, if_neg m4, if_pos ⟨n5, n1⟩]
    · have n5 : ¬ e.senses.length = 0 := by have := beq_eq_false_iff_ne.1 t5; omega
      (repeat' (first | refine kA ?_ | refine kB ?_ | ((first | (refine kC (N := 55) rfl (by kernel_rfl) ?_) | (apply kJ (id := 12) (N := 55) kpm1; kernel_rfl; rfl; kernel_rfl; (repeat (first | exact Picks.nil | (apply Picks.cons; rfl)))) | refine kD ?_ | refine kE ?_); simp +decide only [go_sem, t1, t3, t4, t5, t5', Ent.row]) | (apply kG; (simp +decide only [go_sem, t1, t3, t4, t5, t5', Ent.row]; rfl); all_goals (intro hcnd; first | (exact absurd hcnd (by decide)) | skip)) | ((first | refine kH ?_ ?_ | refine kI ?_ ?_) <;> (intro hcnd; simp +decide only [go_sem, hcnd, t1, t3, t4, t5, t5', Ent.row]))))
      refine dw_rngI e.senses (fun k => kn 55 [(1, .one (.bx 1 8 0 0)), (38, dv (.sl 2 (e.senses.map Sns.enc))), (39, dv (li e.senses.length)), (40, dv (li k))] (ml [(1, [e.row])])) (fun k => sensL (e.senses.take k) (e.senses.drop k) = sensesE e) he.1.senses (kM rfl (by simp +decide only [go_sem]) (by simp +decide only [go_sem, Ent.row])) (by rw [sensesE, if_neg m1, if_neg m3, if_neg m4, if_neg (by simp [n5])]; simp) ?_ ?_
      · intro k s hs hk hm htk hlt hw hi
        rw [drop_at hs, sensL] at hi
        have hkm : (k ≤ e.senses.length) = True := eq_true (by omega)
        have hz : (0 ≤ k) = True := eq_true (Nat.zero_le k)
        have htm : List.take k (e.senses.map Sns.enc) = (e.senses.take k).map Sns.enc := (List.map_take ..).symm
        have hkl : (e.senses.take k).length ≤ maxLen := by rw [List.length_take]; have := he.1.senses; omega
        have hS := sense_D (e.senses.take k) s hkl
        simp only [Sns.row] at hS
        rcases Bool.eq_false_or_eq_true (senseE (e.senses.take k) s != 0) with t6 | t6
        · have n6 : senseE (e.senses.take k) s ≠ 0 := by simpa using t6
          rw [if_pos n6] at hi
          (repeat' (first | refine kA ?_ | refine kB ?_ | ((first | (refine kC (N := 55) rfl (by kernel_rfl) ?_) | (apply kJ (id := 12) (N := 55) kpm1; kernel_rfl; rfl; kernel_rfl; (repeat (first | exact Picks.nil | (apply Picks.cons; rfl)))) | refine kD ?_ | refine kE ?_ | (refine kN (hS) (kP rfl) ?_) | (refine kO (hS) (kP rfl) ?_) | refine kF ?_); simp +decide only [go_sem, hlt, hw, hs, t6, hkm, hz, htm, List.drop_zero, Int.toNat_natCast, Ent.row, Sns.enc]) | (apply kG; (simp +decide only [go_sem, hlt, hw, hs, t6, hkm, hz, htm, List.drop_zero, Int.toNat_natCast, Ent.row, Sns.enc]; rfl); all_goals (intro hcnd; first | (exact absurd hcnd (by decide)) | skip)) | ((first | refine kH ?_ ?_ | refine kI ?_ ?_) <;> (intro hcnd; simp +decide only [go_sem, hcnd, hlt, hw, hs, t6, hkm, hz, htm, List.drop_zero, Int.toNat_natCast, Ent.row, Sns.enc]))))
          rw [hi]
        · have n6 : ¬ senseE (e.senses.take k) s ≠ 0 := by simpa using t6
          rw [if_neg n6] at hi
          (repeat' (first | refine kA ?_ | refine kB ?_ | ((first | (refine kC (N := 55) rfl (by kernel_rfl) ?_) | (apply kJ (id := 12) (N := 55) kpm1; kernel_rfl; rfl; kernel_rfl; (repeat (first | exact Picks.nil | (apply Picks.cons; rfl)))) | refine kD ?_ | refine kE ?_ | (refine kN (hS) (kP rfl) ?_) | (refine kO (hS) (kP rfl) ?_) | refine kF ?_); simp +decide only [go_sem, hlt, hw, hs, t6, hkm, hz, htm, List.drop_zero, Int.toNat_natCast, Ent.row, Sns.enc]) | (apply kG; (simp +decide only [go_sem, hlt, hw, hs, t6, hkm, hz, htm, List.drop_zero, Int.toNat_natCast, Ent.row, Sns.enc]; rfl); all_goals (intro hcnd; first | (exact absurd hcnd (by decide)) | skip)) | ((first | refine kH ?_ ?_ | refine kI ?_ ?_) <;> (intro hcnd; simp +decide only [go_sem, hcnd, hlt, hw, hs, t6, hkm, hz, htm, List.drop_zero, Int.toNat_natCast, Ent.row, Sns.enc]))))
          exact ⟨by rw [htk]; exact hi, kM rfl (by simp +decide only [go_sem]) (by simp +decide only [go_sem, Ent.row])⟩
      · intro hlt hi
        (repeat' (first | refine kA ?_ | refine kB ?_ | ((first | (refine kC (N := 55) rfl (by kernel_rfl) ?_) | (apply kJ (id := 12) (N := 55) kpm1; kernel_rfl; rfl; kernel_rfl; (repeat (first | exact Picks.nil | (apply Picks.cons; rfl)))) | refine kD ?_ | refine kE ?_ | refine kF ?_); simp +decide only [go_sem, hlt, Ent.row]) | (apply kG; (simp +decide only [go_sem, hlt, Ent.row]; rfl); all_goals (intro hcnd; first | (exact absurd hcnd (by decide)) | skip)) | ((first | refine kH ?_ ?_ | refine kI ?_ ?_) <;> (intro hcnd; simp +decide only [go_sem, hcnd, hlt, Ent.row]))))
        rw [← hi]; simp [sensL]

set_option maxRecDepth 10000 in
set_option maxHeartbeats 8000000 in
theorem rSenses_D (e : Ent) (hs2 : ∀ s ∈ e.senses, s.gloss.size ≤ 1048576 ∧ s.txt.size ≤ 1048576) : DCalls Tryz.prog 76 [.agg e.row] (dv (li (sensesE e))) := by
  have hmax : maxLen = 9223372036854775807 := rfl
  refine dcalls_grant (p := OkE e ∧ True) (by kernel_rfl) (fun w K h => ?_) fun he => ?_
  · obtain ⟨v, hv⟩ := h (.agg e.row) (by simp)
    exact ⟨okE_of hv, trivial⟩
  have hI := rIdent_D e.main
  refine dcalls (N := 52) (rs := [.tmp 2]) (by kernel_rfl) Tryz.func76 rfl rfl rfl (by simp) ?_
  rcases Bool.eq_false_or_eq_true (e.main != 0) with t1 | t1
  · have n1 : e.main ≠ 0 := by simpa using t1
    have t5' : (e.main == 0) = false := by simpa using n1
    cases t2 : ident e.main
    · rw [t2] at hI
      (repeat' (first | refine kA ?_ | refine kB ?_ | ((first | (refine kC (N := 52) rfl (by kernel_rfl) ?_) | (apply kJ (id := 12) (N := 52) kpm9; kernel_rfl; rfl; kernel_rfl; (repeat (first | exact Picks.nil | (apply Picks.cons; rfl)))) | refine kD ?_ | refine kE ?_ | (refine kN (hI) (kP rfl) ?_) | (refine kO (hI) (kP rfl) ?_) | refine kF ?_); simp +decide only [go_sem, t1, Ent.row]) | (apply kG; (simp +decide only [go_sem, t1, Ent.row]; rfl); all_goals (intro hcnd; first | (exact absurd hcnd (by decide)) | skip)) | ((first | refine kH ?_ ?_ | refine kI ?_ ?_) <;> (intro hcnd; simp +decide only [go_sem, hcnd, t1, Ent.row]))))
      rw [sensesE, if_pos ⟨n1, t2⟩]
    rw [t2] at hI
    have m1 : ¬ (e.main ≠ 0 ∧ ident e.main = false) := by simp [t2]
    rcases Bool.eq_false_or_eq_true (e.main == e.id) with t3 | t3
    · (repeat' (first | refine kA ?_ | refine kB ?_ | ((first | (refine kC (N := 52) rfl (by kernel_rfl) ?_) | (apply kJ (id := 12) (N := 52) kpm9; kernel_rfl; rfl; kernel_rfl; (repeat (first | exact Picks.nil | (apply Picks.cons; rfl)))) | refine kD ?_ | refine kE ?_ | (refine kN (hI) (kP rfl) ?_) | (refine kO (hI) (kP rfl) ?_) | refine kF ?_); simp +decide only [go_sem, t1, t3, Ent.row]) | (apply kG; (simp +decide only [go_sem, t1, t3, Ent.row]; rfl); all_goals (intro hcnd; first | (exact absurd hcnd (by decide)) | skip)) | ((first | refine kH ?_ ?_ | refine kI ?_ ?_) <;> (intro hcnd; simp +decide only [go_sem, hcnd, t1, t3, Ent.row]))))
      rw [sensesE, if_neg m1, if_pos (by simpa using t3)]
    have m3 : ¬ e.main = e.id := by simpa using t3
    rcases Bool.eq_false_or_eq_true (decide ((5 : Int) < (e.senses.length : Int))) with t4 | t4
    · (repeat' (first | refine kA ?_ | refine kB ?_ | ((first | (refine kC (N := 52) rfl (by kernel_rfl) ?_) | (apply kJ (id := 12) (N := 52) kpm9; kernel_rfl; rfl; kernel_rfl; (repeat (first | exact Picks.nil | (apply Picks.cons; rfl)))) | refine kD ?_ | refine kE ?_ | (refine kN (hI) (kP rfl) ?_) | (refine kO (hI) (kP rfl) ?_) | refine kF ?_); simp +decide only [go_sem, t1, t3, t4, Ent.row]) | (apply kG; (simp +decide only [go_sem, t1, t3, t4, Ent.row]; rfl); all_goals (intro hcnd; first | (exact absurd hcnd (by decide)) | skip)) | ((first | refine kH ?_ ?_ | refine kI ?_ ?_) <;> (intro hcnd; simp +decide only [go_sem, hcnd, t1, t3, t4, Ent.row]))))
      rw [sensesE, if_neg m1, if_neg m3, if_pos (by have := of_decide_eq_true t4; omega)]
    have m4 : ¬ 5 < e.senses.length := by have := of_decide_eq_false t4; omega
    rcases Bool.eq_false_or_eq_true ((e.senses.length : Int) == 0) with t5 | t5
    · (repeat' (first | refine kA ?_ | refine kB ?_ | ((first | (refine kC (N := 52) rfl (by kernel_rfl) ?_) | (apply kJ (id := 12) (N := 52) kpm9; kernel_rfl; rfl; kernel_rfl; (repeat (first | exact Picks.nil | (apply Picks.cons; rfl)))) | refine kD ?_ | refine kE ?_ | (refine kN (hI) (kP rfl) ?_) | (refine kO (hI) (kP rfl) ?_)); simp +decide only [go_sem, t1, t3, t4, t5, t5', Ent.row]) | (apply kG; (simp +decide only [go_sem, t1, t3, t4, t5, t5', Ent.row]; rfl); all_goals (intro hcnd; first | (exact absurd hcnd (by decide)) | skip)) | ((first | refine kH ?_ ?_ | refine kI ?_ ?_) <;> (intro hcnd; simp +decide only [go_sem, hcnd, t1, t3, t4, t5, t5', Ent.row]))))
      refine dw_rngI e.senses (fun k => kn 52 [(1, .one (.bx 1 8 0 0)), (3, dv (li k))] (ml [(1, [e.row])])) (fun k => sensL (e.senses.take k) (e.senses.drop k) = sensesE e) he.1.senses (kM rfl (by simp +decide only [go_sem]) (by simp +decide only [go_sem, Ent.row])) (by rw [sensesE, if_neg m1, if_neg m3, if_neg m4, if_neg (by simp [n1])]; simp) ?_ ?_
      · intro k s hs hk hm htk hlt hw hi
        rw [drop_at hs, sensL] at hi
        have hkm : (k ≤ e.senses.length) = True := eq_true (by omega)
        have hz : (0 ≤ k) = True := eq_true (Nat.zero_le k)
        have htm : List.take k (e.senses.map Sns.enc) = (e.senses.take k).map Sns.enc := (List.map_take ..).symm
        have hkl : (e.senses.take k).length ≤ maxLen := by rw [List.length_take]; have := he.1.senses; omega
        have hS := rSense_D (e.senses.take k) s hkl (hs2 s hm).1 (hs2 s hm).2
        simp only [Sns.row] at hS
        rcases Bool.eq_false_or_eq_true (senseE (e.senses.take k) s != 0) with t6 | t6
        · have n6 : senseE (e.senses.take k) s ≠ 0 := by simpa using t6
          rw [if_pos n6] at hi
          (repeat' (first | refine kA ?_ | refine kB ?_ | ((first | (refine kC (N := 52) rfl (by kernel_rfl) ?_) | (apply kJ (id := 12) (N := 52) kpm9; kernel_rfl; rfl; kernel_rfl; (repeat (first | exact Picks.nil | (apply Picks.cons; rfl)))) | refine kD ?_ | refine kE ?_ | (refine kN (hS) (kP rfl) ?_) | (refine kO (hS) (kP rfl) ?_) | refine kF ?_); simp +decide only [go_sem, hlt, hw, hs, t6, hkm, hz, htm, List.drop_zero, Int.toNat_natCast, Ent.row, Sns.enc]) | (apply kG; (simp +decide only [go_sem, hlt, hw, hs, t6, hkm, hz, htm, List.drop_zero, Int.toNat_natCast, Ent.row, Sns.enc]; rfl); all_goals (intro hcnd; first | (exact absurd hcnd (by decide)) | skip)) | ((first | refine kH ?_ ?_ | refine kI ?_ ?_) <;> (intro hcnd; simp +decide only [go_sem, hcnd, hlt, hw, hs, t6, hkm, hz, htm, List.drop_zero, Int.toNat_natCast, Ent.row, Sns.enc]))))
          rw [hi]
        · have n6 : ¬ senseE (e.senses.take k) s ≠ 0 := by simpa using t6
          rw [if_neg n6] at hi
          (repeat' (first | refine kA ?_ | refine kB ?_ | ((first | (refine kC (N := 52) rfl (by kernel_rfl) ?_) | (apply kJ (id := 12) (N := 52) kpm9; kernel_rfl; rfl; kernel_rfl; (repeat (first | exact Picks.nil | (apply Picks.cons; rfl)))) | refine kD ?_ | refine kE ?_ | (refine kN (hS) (kP rfl) ?_) | (refine kO (hS) (kP rfl) ?_) | refine kF ?_); simp +decide only [go_sem, hlt, hw, hs, t6, hkm, hz, htm, List.drop_zero, Int.toNat_natCast, Ent.row, Sns.enc]) | (apply kG; (simp +decide only [go_sem, hlt, hw, hs, t6, hkm, hz, htm, List.drop_zero, Int.toNat_natCast, Ent.row, Sns.enc]; rfl); all_goals (intro hcnd; first | (exact absurd hcnd (by decide)) | skip)) | ((first | refine kH ?_ ?_ | refine kI ?_ ?_) <;> (intro hcnd; simp +decide only [go_sem, hcnd, hlt, hw, hs, t6, hkm, hz, htm, List.drop_zero, Int.toNat_natCast, Ent.row, Sns.enc]))))
          exact ⟨by rw [htk]; exact hi, kM rfl (by simp +decide only [go_sem]) (by simp +decide only [go_sem, Ent.row])⟩
      · intro hlt hi
        (repeat' (first | refine kA ?_ | refine kB ?_ | ((first | (refine kC (N := 52) rfl (by kernel_rfl) ?_) | (apply kJ (id := 12) (N := 52) kpm9; kernel_rfl; rfl; kernel_rfl; (repeat (first | exact Picks.nil | (apply Picks.cons; rfl)))) | refine kD ?_ | refine kE ?_ | refine kF ?_); simp +decide only [go_sem, hlt, Ent.row]) | (apply kG; (simp +decide only [go_sem, hlt, Ent.row]; rfl); all_goals (intro hcnd; first | (exact absurd hcnd (by decide)) | skip)) | ((first | refine kH ?_ ?_ | refine kI ?_ ?_) <;> (intro hcnd; simp +decide only [go_sem, hcnd, hlt, Ent.row]))))
        rw [← hi]; simp [sensL]
    · (repeat' (first | refine kA ?_ | refine kB ?_ | ((first | (refine kC (N := 52) rfl (by kernel_rfl) ?_) | (apply kJ (id := 12) (N := 52) kpm9; kernel_rfl; rfl; kernel_rfl; (repeat (first | exact Picks.nil | (apply Picks.cons; rfl)))) | refine kD ?_ | refine kE ?_ | (refine kN (hI) (kP rfl) ?_) | (refine kO (hI) (kP rfl) ?_)); simp +decide only [go_sem, t1, t3, t4, t5, t5', Ent.row]) | (apply kG; (simp +decide only [go_sem, t1, t3, t4, t5, t5', Ent.row]; rfl); all_goals (intro hcnd; first | (exact absurd hcnd (by decide)) | skip)) | ((first | refine kH ?_ ?_ | refine kI ?_ ?_) <;> (intro hcnd; simp +decide only [go_sem, hcnd, t1, t3, t4, t5, t5', Ent.row]))))
      refine dw_rngI e.senses (fun k => kn 52 [(1, .one (.bx 1 8 0 0)), (3, dv (li k))] (ml [(1, [e.row])])) (fun k => sensL (e.senses.take k) (e.senses.drop k) = sensesE e) he.1.senses (kM rfl (by simp +decide only [go_sem]) (by simp +decide only [go_sem, Ent.row])) (by rw [sensesE, if_neg m1, if_neg m3, if_neg m4, if_neg (by simp [n1])]; simp) ?_ ?_
      · intro k s hs hk hm htk hlt hw hi
        rw [drop_at hs, sensL] at hi
        have hkm : (k ≤ e.senses.length) = True := eq_true (by omega)
        have hz : (0 ≤ k) = True := eq_true (Nat.zero_le k)
        have htm : List.take k (e.senses.map Sns.enc) = (e.senses.take k).map Sns.enc := (List.map_take ..).symm
        have hkl : (e.senses.take k).length ≤ maxLen := by rw [List.length_take]; have := he.1.senses; omega
        have hS := rSense_D (e.senses.take k) s hkl (hs2 s hm).1 (hs2 s hm).2
        simp only [Sns.row] at hS
        rcases Bool.eq_false_or_eq_true (senseE (e.senses.take k) s != 0) with t6 | t6
        · have n6 : senseE (e.senses.take k) s ≠ 0 := by simpa using t6
          rw [if_pos n6] at hi
          (repeat' (first | refine kA ?_ | refine kB ?_ | ((first | (refine kC (N := 52) rfl (by kernel_rfl) ?_) | (apply kJ (id := 12) (N := 52) kpm9; kernel_rfl; rfl; kernel_rfl; (repeat (first | exact Picks.nil | (apply Picks.cons; rfl)))) | refine kD ?_ | refine kE ?_ | (refine kN (hS) (kP rfl) ?_) | (refine kO (hS) (kP rfl) ?_) | refine kF ?_); simp +decide only [go_sem, hlt, hw, hs, t6, hkm, hz, htm, List.drop_zero, Int.toNat_natCast, Ent.row, Sns.enc]) | (apply kG; (simp +decide only [go_sem, hlt, hw, hs, t6, hkm, hz, htm, List.drop_zero, Int.toNat_natCast, Ent.row, Sns.enc]; rfl); all_goals (intro hcnd; first | (exact absurd hcnd (by decide)) | skip)) | ((first | refine kH ?_ ?_ | refine kI ?_ ?_) <;> (intro hcnd; simp +decide only [go_sem, hcnd, hlt, hw, hs, t6, hkm, hz, htm, List.drop_zero, Int.toNat_natCast, Ent.row, Sns.enc]))))
          rw [hi]
        · have n6 : ¬ senseE (e.senses.take k) s ≠ 0 := by simpa using t6
          rw [if_neg n6] at hi
          (repeat' (first | refine kA ?_ | refine kB ?_ | ((first | (refine kC (N := 52) rfl (by kernel_rfl) ?_) | (apply kJ (id := 12) (N := 52) kpm9; kernel_rfl; rfl; kernel_rfl; (repeat (first | exact Picks.nil | (apply Picks.cons; rfl)))) | refine kD ?_ | refine kE ?_ | (refine kN (hS) (kP rfl) ?_) | (refine kO (hS) (kP rfl) ?_) | refine kF ?_); simp +decide only [go_sem, hlt, hw, hs, t6, hkm, hz, htm, List.drop_zero, Int.toNat_natCast, Ent.row, Sns.enc]) | (apply kG; (simp +decide only [go_sem, hlt, hw, hs, t6, hkm, hz, htm, List.drop_zero, Int.toNat_natCast, Ent.row, Sns.enc]; rfl); all_goals (intro hcnd; first | (exact absurd hcnd (by decide)) | skip)) | ((first | refine kH ?_ ?_ | refine kI ?_ ?_) <;> (intro hcnd; simp +decide only [go_sem, hcnd, hlt, hw, hs, t6, hkm, hz, htm, List.drop_zero, Int.toNat_natCast, Ent.row, Sns.enc]))))
          exact ⟨by rw [htk]; exact hi, kM rfl (by simp +decide only [go_sem]) (by simp +decide only [go_sem, Ent.row])⟩
      · intro hlt hi
        (repeat' (first | refine kA ?_ | refine kB ?_ | ((first | (refine kC (N := 52) rfl (by kernel_rfl) ?_) | (apply kJ (id := 12) (N := 52) kpm9; kernel_rfl; rfl; kernel_rfl; (repeat (first | exact Picks.nil | (apply Picks.cons; rfl)))) | refine kD ?_ | refine kE ?_ | refine kF ?_); simp +decide only [go_sem, hlt, Ent.row]) | (apply kG; (simp +decide only [go_sem, hlt, Ent.row]; rfl); all_goals (intro hcnd; first | (exact absurd hcnd (by decide)) | skip)) | ((first | refine kH ?_ ?_ | refine kI ?_ ?_) <;> (intro hcnd; simp +decide only [go_sem, hcnd, hlt, Ent.row]))))
        rw [← hi]; simp [sensL]
  · have n1 : e.main = 0 := by simpa using t1
    have t5' : (e.main == 0) = true := by simpa using n1
    have m1 : ¬ (e.main ≠ 0 ∧ ident e.main = false) := by simp [n1]
    rcases Bool.eq_false_or_eq_true (e.main == e.id) with t3 | t3
    · (repeat' (first | refine kA ?_ | refine kB ?_ | ((first | (refine kC (N := 52) rfl (by kernel_rfl) ?_) | (apply kJ (id := 12) (N := 52) kpm9; kernel_rfl; rfl; kernel_rfl; (repeat (first | exact Picks.nil | (apply Picks.cons; rfl)))) | refine kD ?_ | refine kE ?_ | refine kF ?_); simp +decide only [go_sem, t1, t3, Ent.row]) | (apply kG; (simp +decide only [go_sem, t1, t3, Ent.row]; rfl); all_goals (intro hcnd; first | (exact absurd hcnd (by decide)) | skip)) | ((first | refine kH ?_ ?_ | refine kI ?_ ?_) <;> (intro hcnd; simp +decide only [go_sem, hcnd, t1, t3, Ent.row]))))
      rw [sensesE, if_neg m1, if_pos (by simpa using t3)]
    have m3 : ¬ e.main = e.id := by simpa using t3
    rcases Bool.eq_false_or_eq_true (decide ((5 : Int) < (e.senses.length : Int))) with t4 | t4
    · (repeat' (first | refine kA ?_ | refine kB ?_ | ((first | (refine kC (N := 52) rfl (by kernel_rfl) ?_) | (apply kJ (id := 12) (N := 52) kpm9; kernel_rfl; rfl; kernel_rfl; (repeat (first | exact Picks.nil | (apply Picks.cons; rfl)))) | refine kD ?_ | refine kE ?_ | refine kF ?_); simp +decide only [go_sem, t1, t3, t4, Ent.row]) | (apply kG; (simp +decide only [go_sem, t1, t3, t4, Ent.row]; rfl); all_goals (intro hcnd; first | (exact absurd hcnd (by decide)) | skip)) | ((first | refine kH ?_ ?_ | refine kI ?_ ?_) <;> (intro hcnd; simp +decide only [go_sem, hcnd, t1, t3, t4, Ent.row]))))
      rw [sensesE, if_neg m1, if_neg m3, if_pos (by have := of_decide_eq_true t4; omega)]
    have m4 : ¬ 5 < e.senses.length := by have := of_decide_eq_false t4; omega
    rcases Bool.eq_false_or_eq_true ((e.senses.length : Int) == 0) with t5 | t5
    · have n5 : e.senses.length = 0 := by have := beq_iff_eq.1 t5; omega
      (repeat' (first | refine kA ?_ | refine kB ?_ | ((first | (refine kC (N := 52) rfl (by kernel_rfl) ?_) | (apply kJ (id := 12) (N := 52) kpm9; kernel_rfl; rfl; kernel_rfl; (repeat (first | exact Picks.nil | (apply Picks.cons; rfl)))) | refine kD ?_ | refine kE ?_ | refine kF ?_); simp +decide only [go_sem, t1, t3, t4, t5, t5', Ent.row]) | (apply kG; (simp +decide only [go_sem, t1, t3, t4, t5, t5', Ent.row]; rfl); all_goals (intro hcnd; first | (exact absurd hcnd (by decide)) | skip)) | ((first | refine kH ?_ ?_ | refine kI ?_ ?_) <;> (intro hcnd; simp +decide only [go_sem, hcnd, t1, t3, t4, t5, t5', Ent.row]))))
      rw [sensesE, if_neg m1, if_neg m3, if_neg m4, if_pos ⟨n5, n1⟩]
    · have n5 : ¬ e.senses.length = 0 := by have := beq_eq_false_iff_ne.1 t5; omega
      (repeat' (first | refine kA ?_ | refine kB ?_ | ((first | (refine kC (N := 52) rfl (by kernel_rfl) ?_) | (apply kJ (id := 12) (N := 52) kpm9; kernel_rfl; rfl; kernel_rfl; (repeat (first | exact Picks.nil | (apply Picks.cons; rfl)))) | refine kD ?_ | refine kE ?_); simp +decide only [go_sem, t1, t3, t4, t5, t5', Ent.row]) | (apply kG; (simp +decide only [go_sem, t1, t3, t4, t5, t5', Ent.row]; rfl); all_goals (intro hcnd; first | (exact absurd hcnd (by decide)) | skip)) | ((first | refine kH ?_ ?_ | refine kI ?_ ?_) <;> (intro hcnd; simp +decide only [go_sem, hcnd, t1, t3, t4, t5, t5', Ent.row]))))
      refine dw_rngI e.senses (fun k => kn 52 [(1, .one (.bx 1 8 0 0)), (3, dv (li k))] (ml [(1, [e.row])])) (fun k => sensL (e.senses.take k) (e.senses.drop k) = sensesE e) he.1.senses (kM rfl (by simp +decide only [go_sem]) (by simp +decide only [go_sem, Ent.row])) (by rw [sensesE, if_neg m1, if_neg m3, if_neg m4, if_neg (by simp [n5])]; simp) ?_ ?_
      · intro k s hs hk hm htk hlt hw hi
        rw [drop_at hs, sensL] at hi
        have hkm : (k ≤ e.senses.length) = True := eq_true (by omega)
        have hz : (0 ≤ k) = True := eq_true (Nat.zero_le k)
        have htm : List.take k (e.senses.map Sns.enc) = (e.senses.take k).map Sns.enc := (List.map_take ..).symm
        have hkl : (e.senses.take k).length ≤ maxLen := by rw [List.length_take]; have := he.1.senses; omega
        have hS := rSense_D (e.senses.take k) s hkl (hs2 s hm).1 (hs2 s hm).2
        simp only [Sns.row] at hS
        rcases Bool.eq_false_or_eq_true (senseE (e.senses.take k) s != 0) with t6 | t6
        · have n6 : senseE (e.senses.take k) s ≠ 0 := by simpa using t6
          rw [if_pos n6] at hi
          (repeat' (first | refine kA ?_ | refine kB ?_ | ((first | (refine kC (N := 52) rfl (by kernel_rfl) ?_) | (apply kJ (id := 12) (N := 52) kpm9; kernel_rfl; rfl; kernel_rfl; (repeat (first | exact Picks.nil | (apply Picks.cons; rfl)))) | refine kD ?_ | refine kE ?_ | (refine kN (hS) (kP rfl) ?_) | (refine kO (hS) (kP rfl) ?_) | refine kF ?_); simp +decide only [go_sem, hlt, hw, hs, t6, hkm, hz, htm, List.drop_zero, Int.toNat_natCast, Ent.row, Sns.enc]) | (apply kG; (simp +decide only [go_sem, hlt, hw, hs, t6, hkm, hz, htm, List.drop_zero, Int.toNat_natCast, Ent.row, Sns.enc]; rfl); all_goals (intro hcnd; first | (exact absurd hcnd (by decide)) | skip)) | ((first | refine kH ?_ ?_ | refine kI ?_ ?_) <;> (intro hcnd; simp +decide only [go_sem, hcnd, hlt, hw, hs, t6, hkm, hz, htm, List.drop_zero, Int.toNat_natCast, Ent.row, Sns.enc]))))
          rw [hi]
        · have n6 : ¬ senseE (e.senses.take k) s ≠ 0 := by simpa using t6
          rw [if_neg n6] at hi
          (repeat' (first | refine kA ?_ | refine kB ?_ | ((first | (refine kC (N := 52) rfl (by kernel_rfl) ?_) | (apply kJ (id := 12) (N := 52) kpm9; kernel_rfl; rfl; kernel_rfl; (repeat (first | exact Picks.nil | (apply Picks.cons; rfl)))) | refine kD ?_ | refine kE ?_ | (refine kN (hS) (kP rfl) ?_) | (refine kO (hS) (kP rfl) ?_) | refine kF ?_); simp +decide only [go_sem, hlt, hw, hs, t6, hkm, hz, htm, List.drop_zero, Int.toNat_natCast, Ent.row, Sns.enc]) | (apply kG; (simp +decide only [go_sem, hlt, hw, hs, t6, hkm, hz, htm, List.drop_zero, Int.toNat_natCast, Ent.row, Sns.enc]; rfl); all_goals (intro hcnd; first | (exact absurd hcnd (by decide)) | skip)) | ((first | refine kH ?_ ?_ | refine kI ?_ ?_) <;> (intro hcnd; simp +decide only [go_sem, hcnd, hlt, hw, hs, t6, hkm, hz, htm, List.drop_zero, Int.toNat_natCast, Ent.row, Sns.enc]))))
          exact ⟨by rw [htk]; exact hi, kM rfl (by simp +decide only [go_sem]) (by simp +decide only [go_sem, Ent.row])⟩
      · intro hlt hi
        (repeat' (first | refine kA ?_ | refine kB ?_ | ((first | (refine kC (N := 52) rfl (by kernel_rfl) ?_) | (apply kJ (id := 12) (N := 52) kpm9; kernel_rfl; rfl; kernel_rfl; (repeat (first | exact Picks.nil | (apply Picks.cons; rfl)))) | refine kD ?_ | refine kE ?_ | refine kF ?_); simp +decide only [go_sem, hlt, Ent.row]) | (apply kG; (simp +decide only [go_sem, hlt, Ent.row]; rfl); all_goals (intro hcnd; first | (exact absurd hcnd (by decide)) | skip)) | ((first | refine kH ?_ ?_ | refine kI ?_ ?_) <;> (intro hcnd; simp +decide only [go_sem, hcnd, hlt, Ent.row]))))
        rw [← hi]; simp [sensL]

end Go.Proofs.YtdmmhemfnnbddaaGreatDoor

namespace Go.Proofs.YtdmmhemfnnbddaaGreatDoor
abbrev kpm10 : List (Nat × Go.Dl.Mode) := [(0, .light), (1, .light), (2, .light), (3, .light), (4, .light), (5, .light), (6, .light), (7, .light), (8, .light), (9, .step), (10, .light), (11, .step), (12, .light)]
abbrev kpm11 : List (Nat × Go.Dl.Mode) := [(0, .light), (1, .light), (2, .light), (3, .light), (4, .light), (5, .light), (6, .light), (7, .light), (8, .light), (9, .light), (10, .light), (11, .light), (12, .light), (13, .light), (14, .light), (15, .light), (16, .light), (17, .light), (18, .light), (19, .light), (20, .light), (21, .light), (22, .step), (23, .light), (24, .step), (25, .light), (26, .light), (27, .light)]
end Go.Proofs.YtdmmhemfnnbddaaGreatDoor
/- Entries: links; an order of pairs. -/
namespace Go.Proofs.YtdmmhemfnnbddaaGreatDoor
open Go.Dl
open Go.Dl renaming dw_seq → kA, dw_block → kB, dw_reg → kC, dw_skip → kD, dw_exit → kE, dw_ret → kF, dw_cond → kG, guardC_f → kH, guardC_t → kI, dw_drw → kJ, dw_weaken → kK, sub_kn → kL, sub_ml → kM
open Go.Dl.CallC renaming mk → kN, light → kO
open Go.Dl.LeL renaming of_eq → kP
attribute [local irreducible] DW DCalls ECalls wk IW

set_option maxRecDepth 10000 in
set_option maxHeartbeats 2000000 in
theorem or_D (xs : List Int) (hl : xs.length ≤ maxLen) : DCalls Tryz.prog 95 [dv (.sl 1 (ints xs))] (dv (li (orI xs))) := by
  have hmax : maxLen = 9223372036854775807 := rfl
  refine dcalls (N := 18) (rs := [.tmp 2]) (by kernel_rfl) Tryz.func95 rfl rfl rfl (by simp) ?_
  (repeat (first | refine kA ?_ | refine kB ?_ | ((first | (refine kC (N := 18) rfl (by kernel_rfl) ?_) | refine kD ?_ | refine kE ?_); simp +decide only [go_sem])))
  refine dw_rngI xs (fun k => kn 18 [(3, dv (li 0)), (6, dv (.sl 1 (ints xs))), (7, dv (li xs.length)), (8, dv (li k))] noMem) (fun k => orI (xs.drop k) = orI xs) (by omega) (kL rfl (by simp +decide only [go_sem]) (by simp [noMem])) (by simp) ?_ ?_
  · intro k x hx hk hm htk hlt hw hi
    have hx' := ints_at hx
    rw [drop_at hx, orI] at hi
    rcases Bool.eq_false_or_eq_true (x != 0) with t1 | t1
    · rw [if_neg (by simpa using t1)] at hi
      (repeat' (first | refine kA ?_ | refine kB ?_ | ((first | (refine kC (N := 18) rfl (by kernel_rfl) ?_) | refine kD ?_ | refine kE ?_ | refine kF ?_); simp +decide only [go_sem, hlt, hw, hx', t1]) | (apply kG; (simp +decide only [go_sem, hlt, hw, hx', t1]; rfl); all_goals (intro hcnd; first | (exact absurd hcnd (by decide)) | skip))))
      rw [hi]
    · rw [if_pos (by simpa using t1)] at hi
      (repeat' (first | refine kA ?_ | refine kB ?_ | ((first | (refine kC (N := 18) rfl (by kernel_rfl) ?_) | refine kD ?_ | refine kE ?_ | refine kF ?_); simp +decide only [go_sem, hlt, hw, hx', t1]) | (apply kG; (simp +decide only [go_sem, hlt, hw, hx', t1]; rfl); all_goals (intro hcnd; first | (exact absurd hcnd (by decide)) | skip))))
      exact ⟨hi, kL rfl (by simp +decide only [go_sem]) (by simp [noMem])⟩
  · intro hlt hi
    (repeat' (first | refine kA ?_ | refine kB ?_ | ((first | (refine kC (N := 18) rfl (by kernel_rfl) ?_) | refine kD ?_ | refine kE ?_ | refine kF ?_); simp +decide only [go_sem, hlt]) | (apply kG; (simp +decide only [go_sem, hlt]; rfl); all_goals (intro hcnd; first | (exact absurd hcnd (by decide)) | skip))))
    rw [← hi]; simp [orI]

def ordI (a b : Lnk) : Int := orI [cmpI a.kind b.kind, cmpI a.tgt b.tgt]
theorem ord_less (a b : Lnk) : decide ((0 : Int) ≤ ordI a b) = !lessL a b := by
  unfold ordI lessL orI orI orI cmpI
  rcases Int.lt_trichotomy a.kind b.kind with h | h | h
  · simp [h]
  · rcases Int.lt_trichotomy a.tgt b.tgt with h2 | h2 | h2
    · simp [h, h2]
    · simp [h, h2]
    · have : ¬ a.tgt < b.tgt := by omega
      simp [h, h2, this]
  · have h1 : ¬ a.kind < b.kind := by omega
    have h2 : ¬ a.kind = b.kind := by omega
    simp [h, h1, h2]
theorem ord_neg (a b : Lnk) : decide (ordI a b < 0) = lessL a b := by
  have := ord_less a b
  rw [Bool.eq_iff_iff] at this ⊢
  simp at this ⊢
  cases h : lessL a b <;> rw [h] at this <;> simp at this ⊢ <;> omega

set_option maxRecDepth 10000 in
set_option maxHeartbeats 2000000 in
theorem order_D (a b : Lnk) : DCalls Tryz.prog 98 [.agg a.row, .agg b.row] (dv (li (ordI a b))) := by
  have hO := or_D [cmpI a.kind b.kind, cmpI a.tgt b.tgt] (show 2 ≤ maxLen by decide)
  refine dcalls (N := 17) (rs := [.tmp 4]) (by kernel_rfl) Tryz.func98 rfl rfl rfl (by simp) ?_
  (repeat' (first | refine kA ?_ | refine kB ?_ | ((first | (refine kC (N := 17) rfl (by kernel_rfl) ?_) | (apply kJ (id := 1) (N := 17) kpm10; kernel_rfl; rfl; kernel_rfl; (repeat (first | exact Picks.nil | (apply Picks.cons; rfl)))) | refine kD ?_ | refine kE ?_ | (refine kN (cmp_D a.kind b.kind) (kP rfl) ?_) | (refine kO (cmp_D a.kind b.kind) (kP rfl) ?_) | (refine kN (cmp_D a.tgt b.tgt) (kP rfl) ?_) | (refine kO (cmp_D a.tgt b.tgt) (kP rfl) ?_) | (refine kN (hO) (kP rfl) ?_) | (refine kO (hO) (kP rfl) ?_) | refine kF ?_); simp +decide only [go_sem, Lnk.row]) | (apply kG; (simp +decide only [go_sem, Lnk.row]; rfl); all_goals (intro hcnd; first | (exact absurd hcnd (by decide)) | skip))))
  rfl

def prevAt (l : List Lnk) (k : Nat) : Option Lnk := if k = 0 then none else l[k - 1]?
def badP (p : Option Lnk) (x : Lnk) : Bool := match p with
  | none => false
  | some y => !lessL y x
theorem prev_zero (l : List Lnk) : prevAt l 0 = none := rfl
theorem prev_succ {l : List Lnk} {k : Nat} {x : Lnk} (h : l[k]? = some x) : prevAt l (k + 1) = some x := by simp [prevAt, h]
def linkE (id : Int) (p : Option Lnk) (x : Lnk) : Int := if x.kind < 0 ∨ 5 < x.kind then 14 else if ident x.tgt = false then 2 else if x.tgt = id then 17 else if badP p x = true then 10 else 0
def linkL (id : Int) (p : Option Lnk) : List Lnk → Int
  | [] => 0
  | x :: l => if linkE id p x ≠ 0 then linkE id p x else linkL id (some x) l
def linksE (e : Ent) : Int := if 12 < e.links.length then 11 else linkL e.id none e.links

set_option maxRecDepth 10000 in
set_option maxHeartbeats 8000000 in
theorem links_D (e : Ent) : DCalls Tryz.prog 72 [.agg e.row] (dv (li (linksE e))) := by
  have hmax : maxLen = 9223372036854775807 := rfl
  refine dcalls (N := 66) (rs := [.tmp 2]) (by kernel_rfl) Tryz.func72 rfl rfl rfl (by simp) ?_
  rcases Bool.eq_false_or_eq_true (decide ((12 : Int) < (e.links.length : Int))) with t1 | t1
  · (repeat' (first | refine kA ?_ | refine kB ?_ | ((first | (refine kC (N := 66) rfl (by kernel_rfl) ?_) | (apply kJ (id := 12) (N := 66) kpm11; kernel_rfl; rfl; kernel_rfl; (repeat (first | exact Picks.nil | (apply Picks.cons; rfl)))) | refine kD ?_ | refine kE ?_ | refine kF ?_); simp +decide only [go_sem, t1, Ent.row]) | (apply kG; (simp +decide only [go_sem, t1, Ent.row]; rfl); all_goals (intro hcnd; first | (exact absurd hcnd (by decide)) | skip)) | ((first | refine kH ?_ ?_ | refine kI ?_ ?_) <;> (intro hcnd; simp +decide only [go_sem, hcnd, t1, Ent.row]))))
    rw [linksE, if_pos (by have := of_decide_eq_true t1; omega)]
  have n1 : ¬ 12 < e.links.length := by have := of_decide_eq_false t1; omega
  (repeat' (first | refine kA ?_ | refine kB ?_ | ((first | (refine kC (N := 66) rfl (by kernel_rfl) ?_) | (apply kJ (id := 12) (N := 66) kpm11; kernel_rfl; rfl; kernel_rfl; (repeat (first | exact Picks.nil | (apply Picks.cons; rfl)))) | refine kD ?_ | refine kE ?_); simp +decide only [go_sem, t1, Ent.row]) | (apply kG; (simp +decide only [go_sem, t1, Ent.row]; rfl); all_goals (intro hcnd; first | (exact absurd hcnd (by decide)) | skip)) | ((first | refine kH ?_ ?_ | refine kI ?_ ?_) <;> (intro hcnd; simp +decide only [go_sem, hcnd, t1, Ent.row]))))
  refine dw_rngI e.links (fun k => kn 66 [(1, .one (.bx 1 8 0 0)), (10, dv (.sl 2 (e.links.map Lnk.enc))), (11, dv (li e.links.length)), (12, dv (li k))] (ml [(1, [e.row])])) (fun k => linkL e.id (prevAt e.links k) (e.links.drop k) = linksE e) (by omega) (kM rfl (by simp +decide only [go_sem]) (by simp +decide only [go_sem, Ent.row])) (by rw [linksE, if_neg n1]; simp [prev_zero]) ?_ ?_
  · intro k x hx hk hm htk hlt hw hi
    rw [drop_at hx, linkL] at hi
    have hI := ident_D x.tgt
    rcases Bool.eq_false_or_eq_true (decide (x.kind < 0)) with t2 | t2
    · have n2 := of_decide_eq_true t2
      have hE : linkE e.id (prevAt e.links k) x = 14 := by rw [linkE, if_pos (.inl n2)]
      rw [hE, if_pos (by decide)] at hi
      (repeat' (first | refine kA ?_ | refine kB ?_ | ((first | (refine kC (N := 66) rfl (by kernel_rfl) ?_) | (apply kJ (id := 12) (N := 66) kpm11; kernel_rfl; rfl; kernel_rfl; (repeat (first | exact Picks.nil | (apply Picks.cons; rfl)))) | refine kD ?_ | refine kE ?_ | refine kF ?_); simp +decide only [go_sem, hlt, hw, hx, t2, Ent.row, Lnk.enc]) | (apply kG; (simp +decide only [go_sem, hlt, hw, hx, t2, Ent.row, Lnk.enc]; rfl); all_goals (intro hcnd; first | (exact absurd hcnd (by decide)) | skip)) | ((first | refine kH ?_ ?_ | refine kI ?_ ?_) <;> (intro hcnd; simp +decide only [go_sem, hcnd, hlt, hw, hx, t2, Ent.row, Lnk.enc]))))
      rw [hi]
    have n2 := of_decide_eq_false t2
    rcases Bool.eq_false_or_eq_true (decide ((5 : Int) < x.kind)) with t3 | t3
    · have n3 := of_decide_eq_true t3
      have hE : linkE e.id (prevAt e.links k) x = 14 := by rw [linkE, if_pos (.inr n3)]
      rw [hE, if_pos (by decide)] at hi
      (repeat' (first | refine kA ?_ | refine kB ?_ | ((first | (refine kC (N := 66) rfl (by kernel_rfl) ?_) | (apply kJ (id := 12) (N := 66) kpm11; kernel_rfl; rfl; kernel_rfl; (repeat (first | exact Picks.nil | (apply Picks.cons; rfl)))) | refine kD ?_ | refine kE ?_ | refine kF ?_); simp +decide only [go_sem, hlt, hw, hx, t2, t3, Ent.row, Lnk.enc]) | (apply kG; (simp +decide only [go_sem, hlt, hw, hx, t2, t3, Ent.row, Lnk.enc]; rfl); all_goals (intro hcnd; first | (exact absurd hcnd (by decide)) | skip)) | ((first | refine kH ?_ ?_ | refine kI ?_ ?_) <;> (intro hcnd; simp +decide only [go_sem, hcnd, hlt, hw, hx, t2, t3, Ent.row, Lnk.enc]))))
      rw [hi]
    have n3 := of_decide_eq_false t3
    have n23 : ¬ (x.kind < 0 ∨ 5 < x.kind) := by omega
    cases t4 : ident x.tgt
    · rw [t4] at hI
      have hE : linkE e.id (prevAt e.links k) x = 2 := by rw [linkE, if_neg n23, t4]; rfl
      rw [hE, if_pos (by decide)] at hi
      (repeat' (first | refine kA ?_ | refine kB ?_ | ((first | (refine kC (N := 66) rfl (by kernel_rfl) ?_) | (apply kJ (id := 12) (N := 66) kpm11; kernel_rfl; rfl; kernel_rfl; (repeat (first | exact Picks.nil | (apply Picks.cons; rfl)))) | refine kD ?_ | refine kE ?_ | (refine kN (hI) (kP rfl) ?_) | (refine kO (hI) (kP rfl) ?_) | refine kF ?_); simp +decide only [go_sem, hlt, hw, hx, t2, t3, Ent.row, Lnk.enc]) | (apply kG; (simp +decide only [go_sem, hlt, hw, hx, t2, t3, Ent.row, Lnk.enc]; rfl); all_goals (intro hcnd; first | (exact absurd hcnd (by decide)) | skip)) | ((first | refine kH ?_ ?_ | refine kI ?_ ?_) <;> (intro hcnd; simp +decide only [go_sem, hcnd, hlt, hw, hx, t2, t3, Ent.row, Lnk.enc]))))
      rw [hi]
    rw [t4] at hI
    have n4 : ¬ ident x.tgt = false := by rw [t4]; decide
    rcases Bool.eq_false_or_eq_true (x.tgt == e.id) with t5 | t5
    · have hE : linkE e.id (prevAt e.links k) x = 17 := by rw [linkE, if_neg n23, if_neg n4, if_pos (by simpa using t5)]
      rw [hE, if_pos (by decide)] at hi
      (repeat' (first | refine kA ?_ | refine kB ?_ | ((first | (refine kC (N := 66) rfl (by kernel_rfl) ?_) | (apply kJ (id := 12) (N := 66) kpm11; kernel_rfl; rfl; kernel_rfl; (repeat (first | exact Picks.nil | (apply Picks.cons; rfl)))) | refine kD ?_ | refine kE ?_ | (refine kN (hI) (kP rfl) ?_) | (refine kO (hI) (kP rfl) ?_) | refine kF ?_); simp +decide only [go_sem, hlt, hw, hx, t2, t3, t5, Ent.row, Lnk.enc]) | (apply kG; (simp +decide only [go_sem, hlt, hw, hx, t2, t3, t5, Ent.row, Lnk.enc]; rfl); all_goals (intro hcnd; first | (exact absurd hcnd (by decide)) | skip)) | ((first | refine kH ?_ ?_ | refine kI ?_ ?_) <;> (intro hcnd; simp +decide only [go_sem, hcnd, hlt, hw, hx, t2, t3, t5, Ent.row, Lnk.enc]))))
      rw [hi]
    have n5 : ¬ x.tgt = e.id := by simpa using t5
    have hE5 : linkE e.id (prevAt e.links k) x = if badP (prevAt e.links k) x = true then 10 else 0 := by rw [linkE, if_neg n23, if_neg n4, if_neg n5]
    rw [hE5] at hi
    clear hE5
    rcases Nat.eq_zero_or_pos k with hk0 | hk0
    · have h0 : decide ((0 : Int) < (k : Int)) = false := by simp [hk0]
      have hb : badP (prevAt e.links k) x = false := by rw [hk0]; rfl
      rw [hb, if_neg (by decide)] at hi
      (repeat' (first | refine kA ?_ | refine kB ?_ | ((first | (refine kC (N := 66) rfl (by kernel_rfl) ?_) | (apply kJ (id := 12) (N := 66) kpm11; kernel_rfl; rfl; kernel_rfl; (repeat (first | exact Picks.nil | (apply Picks.cons; rfl)))) | refine kD ?_ | refine kE ?_ | (refine kN (hI) (kP rfl) ?_) | (refine kO (hI) (kP rfl) ?_) | refine kF ?_); simp +decide only [go_sem, hlt, hw, hx, t2, t3, t5, h0, Ent.row, Lnk.enc]) | (apply kG; (simp +decide only [go_sem, hlt, hw, hx, t2, t3, t5, h0, Ent.row, Lnk.enc]; rfl); all_goals (intro hcnd; first | (exact absurd hcnd (by decide)) | skip)) | ((first | refine kH ?_ ?_ | refine kI ?_ ?_) <;> (intro hcnd; simp +decide only [go_sem, hcnd, hlt, hw, hx, t2, t3, t5, h0, Ent.row, Lnk.enc]))))
      exact ⟨by rw [prev_succ hx]; exact hi, kM rfl (by simp +decide only [go_sem]) (by simp +decide only [go_sem, Ent.row])⟩
    · obtain ⟨m, hkm⟩ : ∃ m, k = m + 1 := ⟨k - 1, by omega⟩
      obtain ⟨y, hy⟩ : ∃ y, e.links[m]? = some y := ⟨_, List.getElem?_eq_getElem (by omega)⟩
      have h0 : decide ((0 : Int) < (k : Int)) = true := by simp; omega
      have hwm : IntKind.i64.wrap ((k : Int) - 1) = (m : Int) := by rw [show (k : Int) - 1 = (m : Int) by omega]; exact wrap64n (by omega)
      have hO := or_D [cmpI y.kind x.kind, cmpI y.tgt x.tgt] (show 2 ≤ maxLen by decide)
      have hord := ord_less y x
      rw [ordI] at hord
      cases t7 : lessL y x
      · rw [t7] at hord
        have hb : badP (prevAt e.links k) x = true := by rw [hkm, prev_succ hy, badP, t7]; rfl
        rw [hb, if_pos (by decide), if_pos rfl] at hi
        (repeat' (first | refine kA ?_ | refine kB ?_ | ((first | (refine kC (N := 66) rfl (by kernel_rfl) ?_) | (apply kJ (id := 12) (N := 66) kpm11; kernel_rfl; rfl; kernel_rfl; (repeat (first | exact Picks.nil | (apply Picks.cons; rfl)))) | refine kD ?_ | refine kE ?_ | (refine kN (hI) (kP rfl) ?_) | (refine kO (hI) (kP rfl) ?_) | (refine kN (cmp_D y.kind x.kind) (kP rfl) ?_) | (refine kO (cmp_D y.kind x.kind) (kP rfl) ?_) | (refine kN (cmp_D y.tgt x.tgt) (kP rfl) ?_) | (refine kO (cmp_D y.tgt x.tgt) (kP rfl) ?_) | (refine kN (hO) (kP rfl) ?_) | (refine kO (hO) (kP rfl) ?_) | refine kF ?_); simp +decide only [go_sem, hlt, hw, hx, hy, t2, t3, t5, h0, hwm, hord, Int.toNat_natCast, Ent.row, Lnk.enc]) | (apply kG; (simp +decide only [go_sem, hlt, hw, hx, hy, t2, t3, t5, h0, hwm, hord, Int.toNat_natCast, Ent.row, Lnk.enc]; rfl); all_goals (intro hcnd; first | (exact absurd hcnd (by decide)) | skip)) | ((first | refine kH ?_ ?_ | refine kI ?_ ?_) <;> (intro hcnd; simp +decide only [go_sem, hcnd, hlt, hw, hx, hy, t2, t3, t5, h0, hwm, hord, Int.toNat_natCast, Ent.row, Lnk.enc]))))
        rw [hi]
      · rw [t7] at hord
        have hb : badP (prevAt e.links k) x = false := by rw [hkm, prev_succ hy, badP, t7]; rfl
        rw [hb, if_neg (by decide)] at hi
        (repeat' (first | refine kA ?_ | refine kB ?_ | ((first | (refine kC (N := 66) rfl (by kernel_rfl) ?_) | (apply kJ (id := 12) (N := 66) kpm11; kernel_rfl; rfl; kernel_rfl; (repeat (first | exact Picks.nil | (apply Picks.cons; rfl)))) | refine kD ?_ | refine kE ?_ | (refine kN (hI) (kP rfl) ?_) | (refine kO (hI) (kP rfl) ?_) | (refine kN (cmp_D y.kind x.kind) (kP rfl) ?_) | (refine kO (cmp_D y.kind x.kind) (kP rfl) ?_) | (refine kN (cmp_D y.tgt x.tgt) (kP rfl) ?_) | (refine kO (cmp_D y.tgt x.tgt) (kP rfl) ?_) | (refine kN (hO) (kP rfl) ?_) | (refine kO (hO) (kP rfl) ?_) | refine kF ?_); simp +decide only [go_sem, hlt, hw, hx, hy, t2, t3, t5, h0, hwm, hord, Int.toNat_natCast, Ent.row, Lnk.enc]) | (apply kG; (simp +decide only [go_sem, hlt, hw, hx, hy, t2, t3, t5, h0, hwm, hord, Int.toNat_natCast, Ent.row, Lnk.enc]; rfl); all_goals (intro hcnd; first | (exact absurd hcnd (by decide)) | skip)) | ((first | refine kH ?_ ?_ | refine kI ?_ ?_) <;> (intro hcnd; simp +decide only [go_sem, hcnd, hlt, hw, hx, hy, t2, t3, t5, h0, hwm, hord, Int.toNat_natCast, Ent.row, Lnk.enc]))))
        exact ⟨by rw [prev_succ hx]; exact hi, kM rfl (by simp +decide only [go_sem]) (by simp +decide only [go_sem, Ent.row])⟩
  · intro hlt hi
    (repeat' (first | refine kA ?_ | refine kB ?_ | ((first | (refine kC (N := 66) rfl (by kernel_rfl) ?_) | (apply kJ (id := 12) (N := 66) kpm11; kernel_rfl; rfl; kernel_rfl; (repeat (first | exact Picks.nil | (apply Picks.cons; rfl)))) | refine kD ?_ | refine kE ?_ | refine kF ?_); simp +decide only [go_sem, hlt, Ent.row]) | (apply kG; (simp +decide only [go_sem, hlt, Ent.row]; rfl); all_goals (intro hcnd; first | (exact absurd hcnd (by decide)) | skip)) | ((first | refine kH ?_ ?_ | refine kI ?_ ?_) <;> (intro hcnd; simp +decide only [go_sem, hcnd, hlt, Ent.row]))))
    rw [← hi]; simp [linkL]
end Go.Proofs.YtdmmhemfnnbddaaGreatDoor
