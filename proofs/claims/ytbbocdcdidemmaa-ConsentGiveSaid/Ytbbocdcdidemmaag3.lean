/- The logic of data over the kit's walk, and contracts of the functions that the law reaches, each said by plain data; part 4 of 5. -/
import Derived.Test.Ytbbocdcdidemmaag2
set_option linter.all false
set_option linter.unusedVariables false
set_option linter.unusedSimpArgs false
/- Consents: the reference's At, Least on both sides. -/
namespace Go.Proofs.Ytbbocdcdidemmaa
open Go.Dl
attribute [local irreducible] DW DCalls ECalls wk IW

def hit (p r d : Int) (c : Cons) : Bool := fits p r c && decide (c.day ≤ d)
def atStep (p r d : Int) (out : Int) (c : Cons) : Int := if hit p r d c then c.kind else out
def atR (xs : List Cons) (p r d : Int) : Int := xs.foldl (atStep p r d) 0

theorem atR_eq (xs : List Cons) (p r d : Int) : atR xs p r d = atK xs p r d := by
  have key : ∀ (l : List Cons) (z : Int), l.foldl (atStep p r d) z = ((l.reverse.find? (hit p r d)).map (·.kind)).getD z := by
    intro l
    induction l with
    | nil => intro z; rfl
    | cons c l ih =>
      intro z
      rw [List.foldl_cons, ih, List.reverse_cons, List.find?_append]
      cases hf : l.reverse.find? (hit p r d) with
      | none => cases hc : hit p r d c <;> simp [atStep, hc]
      | some x => simp
  have h2 : (given xs p r).find? (fun c => decide (c.day ≤ d)) = xs.reverse.find? (hit p r d) := by
    rw [given, List.find?_filter]
    congr 1
    funext c
    simp [hit]
  rw [atR, key, atK, h2]

structure Rcd where
  id : Int
  name : ByteArray
  len : Int
  day : Int
  sp : List Int

def Rcd.row (r : Rcd) : List T := [.c (li r.id), .c (ls r.name), .c (li r.len), .c (li r.day), .c (.sl 1 (ints r.sp))]

theorem ints_at {xs : List Int} {k : Nat} {x : Int} (h : xs[k]? = some x) : (ints xs)[k]? = some [li x] := by simp [h]

def leastStep (at_ : Int → Int) (out : Int) (p : Int) : Int := if at_ p < out then at_ p else out
def leastF (at_ : Int → Int) (sp : List Int) : Int := if sp = [] then 0 else sp.foldl (leastStep at_) 2
def leastK (xs : List Cons) (r : Rcd) (d : Int) : Int := leastF (fun p => atK xs p r.id d) r.sp

set_option maxRecDepth 10000 in
set_option maxHeartbeats 2000000 in
--F16
theorem rAt_D (xs : List Cons) (p r d : Int) (hl : xs.length ≤ 1000000) : DCalls Try.prog 16 [dv (.sl 4 (xs.map Cons.enc)), dv (li p), dv (li r), dv (li d)] (dv (li (atK xs p r d))) := by
  have hmax : maxLen = 9223372036854775807 := rfl
  rw [← atR_eq]
  refine dcalls (N := 56) (rs := [.tmp 8]) (by kernel_rfl) Try.func16 rfl rfl rfl (by simp) ?_
  (repeat (first | (refine dw_seq ?_) | (refine dw_block ?_) | ((first | (refine dw_reg (N := 56) rfl (by kernel_rfl) ?_) | (refine dw_skip ?_) | (refine dw_exit ?_)); simp (decide := true) only [go_sem, reduceIte, reduceCtorEq, Nat.reduceEqDiff, Nat.reduceAdd, Nat.reduceMul, Nat.reduceSub, Nat.reduceLeDiff, Nat.reduceBEq])))
  refine dw_rng0 xs (fun k => kn 56 [(0, dv (.sl 4 (xs.map Cons.enc))), (1, dv (li p)), (2, dv (li r)), (3, dv (li d)), (9, dv (li ((xs.take k).foldl (atStep p r d) 0))), (10, dv (li k))] noMem) (by omega) (sub_kn rfl (by simp (decide := true) only [go_sem, reduceIte, reduceCtorEq, Nat.reduceEqDiff, Nat.reduceAdd, Nat.reduceMul, Nat.reduceSub, Nat.reduceLeDiff, Nat.reduceBEq, List.foldl_nil]) (by simp [noMem])) ?_ ?_
  · intro k c hc hk hm htk hlt hw
    have hf : (xs.take (k + 1)).foldl (atStep p r d) 0 = atStep p r d ((xs.take k).foldl (atStep p r d) 0) c := by rw [htk, List.foldl_append]; rfl
    cases h1 : c.person == p <;> cases h2 : c.rcd == 0 <;> cases h3 : c.rcd == r <;> cases h4 : decide (c.day ≤ d) <;>
    ((repeat' (first | (refine dw_seq ?_) | (refine dw_block ?_) | ((first | (refine dw_reg (N := 56) rfl (by kernel_rfl) ?_) | (refine dw_skip ?_) | (refine dw_exit ?_) | (refine dw_ret ?_)); simp (decide := true) only [go_sem, reduceIte, reduceCtorEq, Nat.reduceEqDiff, Nat.reduceAdd, Nat.reduceMul, Nat.reduceSub, Nat.reduceLeDiff, Nat.reduceBEq, hlt, hw, hc, Cons.enc, h1, h2, h3, h4]) | (apply dw_cond; (simp (decide := true) only [go_sem, reduceIte, reduceCtorEq, Nat.reduceEqDiff, Nat.reduceAdd, Nat.reduceMul, Nat.reduceSub, Nat.reduceLeDiff, Nat.reduceBEq, hlt, hw, hc, Cons.enc, h1, h2, h3, h4]; rfl); all_goals (intro hcnd; first | (exact absurd hcnd (by decide)) | skip)) | ((first | refine guardC_f ?_ ?_ | refine guardC_t ?_ ?_) <;> (intro hcnd; simp (decide := true) only [go_sem, reduceIte, reduceCtorEq, Nat.reduceEqDiff, Nat.reduceAdd, Nat.reduceMul, Nat.reduceSub, Nat.reduceLeDiff, Nat.reduceBEq, hcnd, hlt, hw, hc, Cons.enc, h1, h2, h3, h4]))))) <;>
    exact sub_kn rfl (by simp (decide := true) only [go_sem, reduceIte, reduceCtorEq, Nat.reduceEqDiff, Nat.reduceAdd, Nat.reduceMul, Nat.reduceSub, Nat.reduceLeDiff, Nat.reduceBEq, hf, atStep, hit, fits, h1, h2, h3, h4]) (by simp [noMem])
  · intro hlt
    rw [List.take_length]
    (repeat' (first | (refine dw_seq ?_) | (refine dw_block ?_) | ((first | (refine dw_reg (N := 56) rfl (by kernel_rfl) ?_) | (refine dw_skip ?_) | (refine dw_exit ?_) | (refine dw_ret ?_)); simp (decide := true) only [go_sem, reduceIte, reduceCtorEq, Nat.reduceEqDiff, Nat.reduceAdd, Nat.reduceMul, Nat.reduceSub, Nat.reduceLeDiff, Nat.reduceBEq, hlt]) | (apply dw_cond; (simp (decide := true) only [go_sem, reduceIte, reduceCtorEq, Nat.reduceEqDiff, Nat.reduceAdd, Nat.reduceMul, Nat.reduceSub, Nat.reduceLeDiff, Nat.reduceBEq, hlt]; rfl); all_goals (intro hcnd; first | (exact absurd hcnd (by decide)) | skip)) | ((first | refine guardC_f ?_ ?_ | refine guardC_t ?_ ?_) <;> (intro hcnd; simp (decide := true) only [go_sem, reduceIte, reduceCtorEq, Nat.reduceEqDiff, Nat.reduceAdd, Nat.reduceMul, Nat.reduceSub, Nat.reduceLeDiff, Nat.reduceBEq, hcnd, hlt]))))
    rfl

set_option maxRecDepth 10000 in
set_option maxHeartbeats 2000000 in
--F17
theorem least_D (xs : List Cons) (r : Rcd) (d : Int) (hl : xs.length ≤ 1000000) (hs : r.sp.length ≤ 1000000) : DCalls Try.prog 17 [dv (.sl 4 (xs.map Cons.enc)), .agg r.row, dv (li d)] (dv (li (leastK xs r d))) := by
  have hmax : maxLen = 9223372036854775807 := rfl
  refine dcalls (N := 31) (rs := [.tmp 6]) (by kernel_rfl) Try.func17 rfl rfl rfl (by simp) ?_
  (repeat (first | (refine dw_seq ?_) | (refine dw_block ?_) | ((first | (refine dw_reg (N := 31) rfl (by kernel_rfl) ?_) | (refine dw_skip ?_) | (refine dw_exit ?_)); simp (decide := true) only [go_sem, reduceIte, reduceCtorEq, Nat.reduceEqDiff, Nat.reduceAdd, Nat.reduceMul, Nat.reduceSub, Nat.reduceLeDiff, Nat.reduceBEq, Rcd.row])))
  apply dw_cond; (simp (decide := true) only [go_sem, reduceIte, reduceCtorEq, Nat.reduceEqDiff, Nat.reduceAdd, Nat.reduceMul, Nat.reduceSub, Nat.reduceLeDiff, Nat.reduceBEq]; rfl)
  · intro hc
    have h0 : r.sp = [] := by simp at hc; exact hc
    (repeat (first | (refine dw_seq ?_) | (refine dw_block ?_) | ((first | (refine dw_reg (N := 31) rfl (by kernel_rfl) ?_) | (refine dw_skip ?_) | (refine dw_exit ?_)); simp (decide := true) only [go_sem, reduceIte, reduceCtorEq, Nat.reduceEqDiff, Nat.reduceAdd, Nat.reduceMul, Nat.reduceSub, Nat.reduceLeDiff, Nat.reduceBEq])))
    refine dw_ret ?_; simp (decide := true) only [go_sem, reduceIte, reduceCtorEq, Nat.reduceEqDiff, Nat.reduceAdd, Nat.reduceMul, Nat.reduceSub, Nat.reduceLeDiff, Nat.reduceBEq]
    simp [leastK, leastF, h0]
  · intro hc
    have h0 : ¬ r.sp = [] := by simp at hc; exact hc
    (repeat (first | (refine dw_seq ?_) | (refine dw_block ?_) | ((first | (refine dw_reg (N := 31) rfl (by kernel_rfl) ?_) | (refine dw_skip ?_) | (refine dw_exit ?_)); simp (decide := true) only [go_sem, reduceIte, reduceCtorEq, Nat.reduceEqDiff, Nat.reduceAdd, Nat.reduceMul, Nat.reduceSub, Nat.reduceLeDiff, Nat.reduceBEq])))
    refine dw_rng0 r.sp (fun k => kn 31 [(0, dv (.sl 4 (xs.map Cons.enc))), (2, dv (li d)), (4, .one (.bx 4 5 0 0)), (7, dv (li ((r.sp.take k).foldl (leastStep fun p => atK xs p r.id d) 2))), (15, dv (.sl 1 (ints r.sp))), (16, dv (li r.sp.length)), (17, dv (li k))] (ml [(4, [r.row])])) (by omega) (sub_ml rfl (by simp (decide := true) only [go_sem, reduceIte, reduceCtorEq, Nat.reduceEqDiff, Nat.reduceAdd, Nat.reduceMul, Nat.reduceSub, Nat.reduceLeDiff, Nat.reduceBEq, List.foldl_nil]) (by simp (decide := true) only [go_sem, reduceIte, reduceCtorEq, Nat.reduceEqDiff, Nat.reduceAdd, Nat.reduceMul, Nat.reduceSub, Nat.reduceLeDiff, Nat.reduceBEq] <;> rfl)) ?_ ?_
    · intro k p hp hk hm htk hlt hw
      have hf : (r.sp.take (k + 1)).foldl (leastStep fun p => atK xs p r.id d) 2 = leastStep (fun p => atK xs p r.id d) ((r.sp.take k).foldl (leastStep fun p => atK xs p r.id d) 2) p := by rw [htk, List.foldl_append]; rfl
      have hx := ints_at hp
      (repeat' (first | (refine dw_seq ?_) | (refine dw_block ?_) | ((first | (refine dw_reg (N := 31) rfl (by kernel_rfl) ?_) | (refine dw_skip ?_) | (refine dw_exit ?_) | (refine CallC.mk (at_D xs p r.id d (by omega)) (LeL.of_eq rfl) ?_) | (refine CallC.light (at_D xs p r.id d (by omega)) (LeL.of_eq rfl) ?_) | (refine dw_ret ?_)); simp (decide := true) only [go_sem, reduceIte, reduceCtorEq, Nat.reduceEqDiff, Nat.reduceAdd, Nat.reduceMul, Nat.reduceSub, Nat.reduceLeDiff, Nat.reduceBEq, hlt, hw, hp, hx, Rcd.row]) | (apply dw_cond; (simp (decide := true) only [go_sem, reduceIte, reduceCtorEq, Nat.reduceEqDiff, Nat.reduceAdd, Nat.reduceMul, Nat.reduceSub, Nat.reduceLeDiff, Nat.reduceBEq, hlt, hw, hp, hx, Rcd.row]; rfl); all_goals (intro hcnd; first | (exact absurd hcnd (by decide)) | skip)) | ((first | refine guardC_f ?_ ?_ | refine guardC_t ?_ ?_) <;> (intro hcnd; simp (decide := true) only [go_sem, reduceIte, reduceCtorEq, Nat.reduceEqDiff, Nat.reduceAdd, Nat.reduceMul, Nat.reduceSub, Nat.reduceLeDiff, Nat.reduceBEq, hcnd, hlt, hw, hp, hx, Rcd.row]))))
      exact sub_ml rfl (by simp (decide := true) only [go_sem, reduceIte, reduceCtorEq, Nat.reduceEqDiff, Nat.reduceAdd, Nat.reduceMul, Nat.reduceSub, Nat.reduceLeDiff, Nat.reduceBEq, hf, leastStep]) (by simp (decide := true) only [go_sem, reduceIte, reduceCtorEq, Nat.reduceEqDiff, Nat.reduceAdd, Nat.reduceMul, Nat.reduceSub, Nat.reduceLeDiff, Nat.reduceBEq] <;> rfl)
    · intro hlt
      rw [List.take_length]
      (repeat' (first | (refine dw_seq ?_) | (refine dw_block ?_) | ((first | (refine dw_reg (N := 31) rfl (by kernel_rfl) ?_) | (refine dw_skip ?_) | (refine dw_exit ?_) | (refine dw_ret ?_)); simp (decide := true) only [go_sem, reduceIte, reduceCtorEq, Nat.reduceEqDiff, Nat.reduceAdd, Nat.reduceMul, Nat.reduceSub, Nat.reduceLeDiff, Nat.reduceBEq, hlt]) | (apply dw_cond; (simp (decide := true) only [go_sem, reduceIte, reduceCtorEq, Nat.reduceEqDiff, Nat.reduceAdd, Nat.reduceMul, Nat.reduceSub, Nat.reduceLeDiff, Nat.reduceBEq, hlt]; rfl); all_goals (intro hcnd; first | (exact absurd hcnd (by decide)) | skip)) | ((first | refine guardC_f ?_ ?_ | refine guardC_t ?_ ?_) <;> (intro hcnd; simp (decide := true) only [go_sem, reduceIte, reduceCtorEq, Nat.reduceEqDiff, Nat.reduceAdd, Nat.reduceMul, Nat.reduceSub, Nat.reduceLeDiff, Nat.reduceBEq, hcnd, hlt]))))
      simp [leastK, leastF, h0]

set_option maxRecDepth 10000 in
set_option maxHeartbeats 2000000 in
--F18
theorem rLeast_D (xs : List Cons) (r : Rcd) (d : Int) (hl : xs.length ≤ 1000000) (hs : r.sp.length ≤ 1000000) : DCalls Try.prog 18 [dv (.sl 4 (xs.map Cons.enc)), .agg r.row, dv (li d)] (dv (li (leastK xs r d))) := by
  have hmax : maxLen = 9223372036854775807 := rfl
  refine dcalls (N := 33) (rs := [.tmp 6]) (by kernel_rfl) Try.func18 rfl rfl rfl (by simp) ?_
  (repeat (first | (refine dw_seq ?_) | (refine dw_block ?_) | ((first | (refine dw_reg (N := 33) rfl (by kernel_rfl) ?_) | (apply dw_drw (id := 7) (N := 33) [(0, .light), (1, .light), (2, .light), (3, .light), (4, .light), (5, .light), (6, .light), (7, .light), (8, .light), (9, .light), (10, .light), (11, .step), (12, .light)]; kernel_rfl; rfl; kernel_rfl; (repeat (first | exact Picks.nil | (apply Picks.cons; rfl)))) | (refine dw_skip ?_) | (refine dw_exit ?_)); simp (decide := true) only [go_sem, reduceIte, reduceCtorEq, Nat.reduceEqDiff, Nat.reduceAdd, Nat.reduceMul, Nat.reduceSub, Nat.reduceLeDiff, Nat.reduceBEq, Rcd.row])))
  apply dw_cond; (simp (decide := true) only [go_sem, reduceIte, reduceCtorEq, Nat.reduceEqDiff, Nat.reduceAdd, Nat.reduceMul, Nat.reduceSub, Nat.reduceLeDiff, Nat.reduceBEq]; rfl)
  · intro hc
    have h0 : r.sp = [] := by simp at hc; exact hc
    (repeat (first | (refine dw_seq ?_) | (refine dw_block ?_) | ((first | (refine dw_reg (N := 33) rfl (by kernel_rfl) ?_) | (apply dw_drw (id := 7) (N := 33) [(0, .light), (1, .light), (2, .light), (3, .light), (4, .light), (5, .light), (6, .light), (7, .light), (8, .light), (9, .light), (10, .light), (11, .step), (12, .light)]; kernel_rfl; rfl; kernel_rfl; (repeat (first | exact Picks.nil | (apply Picks.cons; rfl)))) | (refine dw_skip ?_) | (refine dw_exit ?_)); simp (decide := true) only [go_sem, reduceIte, reduceCtorEq, Nat.reduceEqDiff, Nat.reduceAdd, Nat.reduceMul, Nat.reduceSub, Nat.reduceLeDiff, Nat.reduceBEq])))
    refine dw_ret ?_; simp (decide := true) only [go_sem, reduceIte, reduceCtorEq, Nat.reduceEqDiff, Nat.reduceAdd, Nat.reduceMul, Nat.reduceSub, Nat.reduceLeDiff, Nat.reduceBEq]
    simp [leastK, leastF, h0]
  · intro hc
    have h0 : ¬ r.sp = [] := by simp at hc; exact hc
    (repeat (first | (refine dw_seq ?_) | (refine dw_block ?_) | ((first | (refine dw_reg (N := 33) rfl (by kernel_rfl) ?_) | (apply dw_drw (id := 7) (N := 33) [(0, .light), (1, .light), (2, .light), (3, .light), (4, .light), (5, .light), (6, .light), (7, .light), (8, .light), (9, .light), (10, .light), (11, .step), (12, .light)]; kernel_rfl; rfl; kernel_rfl; (repeat (first | exact Picks.nil | (apply Picks.cons; rfl)))) | (refine dw_skip ?_) | (refine dw_exit ?_)); simp (decide := true) only [go_sem, reduceIte, reduceCtorEq, Nat.reduceEqDiff, Nat.reduceAdd, Nat.reduceMul, Nat.reduceSub, Nat.reduceLeDiff, Nat.reduceBEq])))
    refine dw_rng0 r.sp (fun k => kn 33 [(0, dv (.sl 4 (xs.map Cons.enc))), (2, dv (li d)), (4, .one (.bx 4 5 0 0)), (7, dv (li ((r.sp.take k).foldl (leastStep fun p => atK xs p r.id d) 2))), (8, dv (li k))] (ml [(4, [r.row])])) (by omega) (sub_ml rfl (by simp (decide := true) only [go_sem, reduceIte, reduceCtorEq, Nat.reduceEqDiff, Nat.reduceAdd, Nat.reduceMul, Nat.reduceSub, Nat.reduceLeDiff, Nat.reduceBEq, List.foldl_nil]) (by simp (decide := true) only [go_sem, reduceIte, reduceCtorEq, Nat.reduceEqDiff, Nat.reduceAdd, Nat.reduceMul, Nat.reduceSub, Nat.reduceLeDiff, Nat.reduceBEq] <;> rfl)) ?_ ?_
    · intro k p hp hk hm htk hlt hw
      have hf : (r.sp.take (k + 1)).foldl (leastStep fun p => atK xs p r.id d) 2 = leastStep (fun p => atK xs p r.id d) ((r.sp.take k).foldl (leastStep fun p => atK xs p r.id d) 2) p := by rw [htk, List.foldl_append]; rfl
      have hx := ints_at hp
      (repeat' (first | (refine dw_seq ?_) | (refine dw_block ?_) | ((first | (refine dw_reg (N := 33) rfl (by kernel_rfl) ?_) | (apply dw_drw (id := 7) (N := 33) [(0, .light), (1, .light), (2, .light), (3, .light), (4, .light), (5, .light), (6, .light), (7, .light), (8, .light), (9, .light), (10, .light), (11, .step), (12, .light)]; kernel_rfl; rfl; kernel_rfl; (repeat (first | exact Picks.nil | (apply Picks.cons; rfl)))) | (refine dw_skip ?_) | (refine dw_exit ?_) | (refine CallC.mk (rAt_D xs p r.id d (by omega)) (LeL.of_eq rfl) ?_) | (refine CallC.light (rAt_D xs p r.id d (by omega)) (LeL.of_eq rfl) ?_) | (refine dw_ret ?_)); simp (decide := true) only [go_sem, reduceIte, reduceCtorEq, Nat.reduceEqDiff, Nat.reduceAdd, Nat.reduceMul, Nat.reduceSub, Nat.reduceLeDiff, Nat.reduceBEq, hlt, hw, hp, hx, Rcd.row]) | (apply dw_cond; (simp (decide := true) only [go_sem, reduceIte, reduceCtorEq, Nat.reduceEqDiff, Nat.reduceAdd, Nat.reduceMul, Nat.reduceSub, Nat.reduceLeDiff, Nat.reduceBEq, hlt, hw, hp, hx, Rcd.row]; rfl); all_goals (intro hcnd; first | (exact absurd hcnd (by decide)) | skip)) | ((first | refine guardC_f ?_ ?_ | refine guardC_t ?_ ?_) <;> (intro hcnd; simp (decide := true) only [go_sem, reduceIte, reduceCtorEq, Nat.reduceEqDiff, Nat.reduceAdd, Nat.reduceMul, Nat.reduceSub, Nat.reduceLeDiff, Nat.reduceBEq, hcnd, hlt, hw, hp, hx, Rcd.row]))))
      exact sub_ml rfl (by simp (decide := true) only [go_sem, reduceIte, reduceCtorEq, Nat.reduceEqDiff, Nat.reduceAdd, Nat.reduceMul, Nat.reduceSub, Nat.reduceLeDiff, Nat.reduceBEq, hf, leastStep]) (by simp (decide := true) only [go_sem, reduceIte, reduceCtorEq, Nat.reduceEqDiff, Nat.reduceAdd, Nat.reduceMul, Nat.reduceSub, Nat.reduceLeDiff, Nat.reduceBEq] <;> rfl)
    · intro hlt
      rw [List.take_length]
      (repeat' (first | (refine dw_seq ?_) | (refine dw_block ?_) | ((first | (refine dw_reg (N := 33) rfl (by kernel_rfl) ?_) | (apply dw_drw (id := 7) (N := 33) [(0, .light), (1, .light), (2, .light), (3, .light), (4, .light), (5, .light), (6, .light), (7, .light), (8, .light), (9, .light), (10, .light), (11, .step), (12, .light)]; kernel_rfl; rfl; kernel_rfl; (repeat (first | exact Picks.nil | (apply Picks.cons; rfl)))) | (refine dw_skip ?_) | (refine dw_exit ?_) | (refine dw_ret ?_)); simp (decide := true) only [go_sem, reduceIte, reduceCtorEq, Nat.reduceEqDiff, Nat.reduceAdd, Nat.reduceMul, Nat.reduceSub, Nat.reduceLeDiff, Nat.reduceBEq, hlt, Rcd.row]) | (apply dw_cond; (simp (decide := true) only [go_sem, reduceIte, reduceCtorEq, Nat.reduceEqDiff, Nat.reduceAdd, Nat.reduceMul, Nat.reduceSub, Nat.reduceLeDiff, Nat.reduceBEq, hlt, Rcd.row]; rfl); all_goals (intro hcnd; first | (exact absurd hcnd (by decide)) | skip)) | ((first | refine guardC_f ?_ ?_ | refine guardC_t ?_ ?_) <;> (intro hcnd; simp (decide := true) only [go_sem, reduceIte, reduceCtorEq, Nat.reduceEqDiff, Nat.reduceAdd, Nat.reduceMul, Nat.reduceSub, Nat.reduceLeDiff, Nat.reduceBEq, hcnd, hlt, Rcd.row]))))
      simp [leastK, leastF, h0]
end Go.Proofs.Ytbbocdcdidemmaa

/- Consents: Days on both sides. -/
namespace Go.Proofs.Ytbbocdcdidemmaa
open Go.Dl
attribute [local irreducible] DW DCalls ECalls wk IW

/-- The day before. -/
def pre (d : Int) : Int := IntKind.wrap .i64 (d - 1)
/-- On this day the least turns. -/
def chg (xs : List Cons) (r : Rcd) (d : Int) : Bool := leastK xs r d != leastK xs r (pre d)
def daysOf (xs : List Cons) : List Int := xs.map (·.day)
def daysK (xs : List Cons) (r : Rcd) : List Int := (usort (daysOf xs)).filter (chg xs r)

theorem take_filter {α : Type} {l : List α} {q : α → Bool} {k : Nat} {c : α} (h : l.take (k + 1) = l.take k ++ [c]) : (l.take (k + 1)).filter q = (l.take k).filter q ++ if q c then [c] else [] := by
  rw [h, List.filter_append]; congr 1; simp [List.filter_cons]

set_option maxRecDepth 10000 in
set_option maxHeartbeats 2000000 in
--F20
theorem days_D (xs : List Cons) (r : Rcd) (hl : xs.length ≤ 1000000) (hs : r.sp.length ≤ 1000000) : DCalls Try.prog 20 [dv (.sl 4 (xs.map Cons.enc)), .agg r.row] (dv (.sl 1 (ints (daysK xs r)))) := by
  have hmax : maxLen = 9223372036854775807 := rfl
  refine dcalls (N := 46) (rs := [.tmp 4]) (by kernel_rfl) Try.func20 rfl rfl rfl (by simp) ?_
  (repeat (first | (refine dw_seq ?_) | (refine dw_block ?_) | ((first | (refine dw_reg (N := 46) rfl (by kernel_rfl) ?_) | (apply dw_drw (id := 11) (N := 46) [(0, .light), (1, .light), (2, .light), (3, .light), (4, .light), (5, .light), (6, .light), (7, .light), (8, .step), (9, .light)]; kernel_rfl; rfl; kernel_rfl; (repeat (first | exact Picks.nil | (apply Picks.cons; rfl)))) | (refine dw_skip ?_) | (refine dw_exit ?_)); simp (decide := true) only [go_sem, reduceIte, reduceCtorEq, Nat.reduceEqDiff, Nat.reduceAdd, Nat.reduceMul, Nat.reduceSub, Nat.reduceLeDiff, Nat.reduceBEq, Rcd.row])))
  refine dw_own 5 5 1 (by simp (decide := true) only [go_sem, reduceIte, reduceCtorEq, Nat.reduceEqDiff, Nat.reduceAdd, Nat.reduceMul, Nat.reduceSub, Nat.reduceLeDiff, Nat.reduceBEq]) ?_
  refine dw_rng0 xs (fun k => kn 46 [(0, dv (.sl 4 (xs.map Cons.enc))), (3, .one (.bx 3 5 0 0)), (5, .one (.own 5 1 (ints (daysOf (xs.take k))))), (11, dv (.sl 4 (xs.map Cons.enc))), (12, dv (li xs.length)), (13, dv (li k))] (ml [(3, [r.row])])) (by omega) (sub_ml rfl (by simp (decide := true) only [go_sem, reduceIte, reduceCtorEq, Nat.reduceEqDiff, Nat.reduceAdd, Nat.reduceMul, Nat.reduceSub, Nat.reduceLeDiff, Nat.reduceBEq, List.take_zero, daysOf, ints]) (by simp (decide := true) only [go_sem, reduceIte, reduceCtorEq, Nat.reduceEqDiff, Nat.reduceAdd, Nat.reduceMul, Nat.reduceSub, Nat.reduceLeDiff, Nat.reduceBEq] <;> rfl)) ?_ ?_
  · intro k c hc hk hm htk hlt hw
    have hlen : (daysOf (xs.take k)).length = k := by simp [daysOf]; omega
    have hb : (k + 1) * 8 ≤ 140737488355328 := by omega
    have hd : daysOf (xs.take (k + 1)) = daysOf (xs.take k) ++ [c.day] := by rw [htk]; simp [daysOf]
    (repeat' (first | (refine dw_seq ?_) | (refine dw_block ?_) | ((first | (refine dw_reg (N := 46) rfl (by kernel_rfl) ?_) | (apply dw_drw (id := 11) (N := 46) [(0, .light), (1, .light), (2, .light), (3, .light), (4, .light), (5, .light), (6, .light), (7, .light), (8, .step), (9, .light)]; kernel_rfl; rfl; kernel_rfl; (repeat (first | exact Picks.nil | (apply Picks.cons; rfl)))) | (refine dw_skip ?_) | (refine dw_exit ?_) | (refine dw_ret ?_)); simp (decide := true) only [go_sem, reduceIte, reduceCtorEq, Nat.reduceEqDiff, Nat.reduceAdd, Nat.reduceMul, Nat.reduceSub, Nat.reduceLeDiff, Nat.reduceBEq, hlt, hw, hc, Cons.enc, hlen, hb, Rcd.row]) | (apply dw_cond; (simp (decide := true) only [go_sem, reduceIte, reduceCtorEq, Nat.reduceEqDiff, Nat.reduceAdd, Nat.reduceMul, Nat.reduceSub, Nat.reduceLeDiff, Nat.reduceBEq, hlt, hw, hc, Cons.enc, hlen, hb, Rcd.row]; rfl); all_goals (intro hcnd; first | (exact absurd hcnd (by decide)) | skip)) | ((first | refine guardC_f ?_ ?_ | refine guardC_t ?_ ?_) <;> (intro hcnd; simp (decide := true) only [go_sem, reduceIte, reduceCtorEq, Nat.reduceEqDiff, Nat.reduceAdd, Nat.reduceMul, Nat.reduceSub, Nat.reduceLeDiff, Nat.reduceBEq, hcnd, hlt, hw, hc, Cons.enc, hlen, hb, Rcd.row]))))
    exact sub_ml rfl (by simp (decide := true) only [go_sem, reduceIte, reduceCtorEq, Nat.reduceEqDiff, Nat.reduceAdd, Nat.reduceMul, Nat.reduceSub, Nat.reduceLeDiff, Nat.reduceBEq, hd, ints, List.map_append]) (by simp (decide := true) only [go_sem, reduceIte, reduceCtorEq, Nat.reduceEqDiff, Nat.reduceAdd, Nat.reduceMul, Nat.reduceSub, Nat.reduceLeDiff, Nat.reduceBEq, Rcd.row])
  · intro hlt
    rw [List.take_length]
    have hlen : (daysOf xs).length = xs.length := by simp [daysOf]
    have hul := usort_len (daysOf xs)
    (repeat' (first | (refine dw_seq ?_) | (refine dw_block ?_) | ((first | (refine dw_reg (N := 46) rfl (by kernel_rfl) ?_) | (apply dw_drw (id := 11) (N := 46) [(0, .light), (1, .light), (2, .light), (3, .light), (4, .light), (5, .light), (6, .light), (7, .light), (8, .step), (9, .light)]; kernel_rfl; rfl; kernel_rfl; (repeat (first | exact Picks.nil | (apply Picks.cons; rfl)))) | (refine dw_skip ?_) | (refine dw_exit ?_) | (refine CallC.mk (sorted_D (daysOf xs) (by omega)) (LeL.of_eq rfl) ?_) | (refine CallC.light (sorted_D (daysOf xs) (by omega)) (LeL.of_eq rfl) ?_) | (refine dw_ret ?_)); simp (decide := true) only [go_sem, reduceIte, reduceCtorEq, Nat.reduceEqDiff, Nat.reduceAdd, Nat.reduceMul, Nat.reduceSub, Nat.reduceLeDiff, Nat.reduceBEq, hlt, Rcd.row]) | (apply dw_cond; (simp (decide := true) only [go_sem, reduceIte, reduceCtorEq, Nat.reduceEqDiff, Nat.reduceAdd, Nat.reduceMul, Nat.reduceSub, Nat.reduceLeDiff, Nat.reduceBEq, hlt, Rcd.row]; rfl); all_goals (intro hcnd; first | (exact absurd hcnd (by decide)) | skip)) | ((first | refine guardC_f ?_ ?_ | refine guardC_t ?_ ?_) <;> (intro hcnd; simp (decide := true) only [go_sem, reduceIte, reduceCtorEq, Nat.reduceEqDiff, Nat.reduceAdd, Nat.reduceMul, Nat.reduceSub, Nat.reduceLeDiff, Nat.reduceBEq, hcnd, hlt, Rcd.row]))))
    refine dw_own 8 8 1 (by simp (decide := true) only [go_sem, reduceIte, reduceCtorEq, Nat.reduceEqDiff, Nat.reduceAdd, Nat.reduceMul, Nat.reduceSub, Nat.reduceLeDiff, Nat.reduceBEq]) ?_
    refine dw_rng0 (usort (daysOf xs)) (fun k => kn 46 [(0, dv (.sl 4 (xs.map Cons.enc))), (3, .one (.bx 3 5 0 0)), (8, .one (.own 8 1 (ints (((usort (daysOf xs)).take k).filter (chg xs r))))), (24, dv (.sl 1 (ints (usort (daysOf xs))))), (25, dv (li (usort (daysOf xs)).length)), (26, dv (li k))] (ml [(3, [r.row])])) (by omega) (sub_ml rfl (by simp (decide := true) only [go_sem, reduceIte, reduceCtorEq, Nat.reduceEqDiff, Nat.reduceAdd, Nat.reduceMul, Nat.reduceSub, Nat.reduceLeDiff, Nat.reduceBEq, List.take_zero, List.filter_nil, ints]) (by simp (decide := true) only [go_sem, reduceIte, reduceCtorEq, Nat.reduceEqDiff, Nat.reduceAdd, Nat.reduceMul, Nat.reduceSub, Nat.reduceLeDiff, Nat.reduceBEq] <;> rfl)) ?_ ?_
    · intro k x hx hk hm htk hlt2 hw
      have hf := take_filter (q := chg xs r) htk
      have hle := List.length_filter_le (chg xs r) ((usort (daysOf xs)).take k)
      have hb : ((((usort (daysOf xs)).take k).filter (chg xs r)).length + 1) * 8 ≤ 140737488355328 := by
        have : ((usort (daysOf xs)).take k).length ≤ (usort (daysOf xs)).length := by simp; omega
        omega
      have hxi := ints_at hx
      (repeat' (first | (refine dw_seq ?_) | (refine dw_block ?_) | ((first | (refine dw_reg (N := 46) rfl (by kernel_rfl) ?_) | (apply dw_drw (id := 11) (N := 46) [(0, .light), (1, .light), (2, .light), (3, .light), (4, .light), (5, .light), (6, .light), (7, .light), (8, .step), (9, .light)]; kernel_rfl; rfl; kernel_rfl; (repeat (first | exact Picks.nil | (apply Picks.cons; rfl)))) | (refine dw_skip ?_) | (refine dw_exit ?_) | (refine CallC.mk (least_D xs r x hl hs) (LeL.of_eq rfl) ?_) | (refine CallC.light (least_D xs r x hl hs) (LeL.of_eq rfl) ?_) | (refine CallC.mk (least_D xs r (IntKind.wrap .i64 (x - 1)) hl hs) (LeL.of_eq rfl) ?_) | (refine CallC.light (least_D xs r (IntKind.wrap .i64 (x - 1)) hl hs) (LeL.of_eq rfl) ?_) | (refine dw_ret ?_)); simp (decide := true) only [go_sem, reduceIte, reduceCtorEq, Nat.reduceEqDiff, Nat.reduceAdd, Nat.reduceMul, Nat.reduceSub, Nat.reduceLeDiff, Nat.reduceBEq, hlt2, hw, hxi, hb, Rcd.row]) | (apply dw_cond; (simp (decide := true) only [go_sem, reduceIte, reduceCtorEq, Nat.reduceEqDiff, Nat.reduceAdd, Nat.reduceMul, Nat.reduceSub, Nat.reduceLeDiff, Nat.reduceBEq, hlt2, hw, hxi, hb, Rcd.row]; rfl); all_goals (intro hcnd; first | (exact absurd hcnd (by decide)) | skip)) | ((first | refine guardC_f ?_ ?_ | refine guardC_t ?_ ?_) <;> (intro hcnd; simp (decide := true) only [go_sem, reduceIte, reduceCtorEq, Nat.reduceEqDiff, Nat.reduceAdd, Nat.reduceMul, Nat.reduceSub, Nat.reduceLeDiff, Nat.reduceBEq, hcnd, hlt2, hw, hxi, hb, Rcd.row]))))
      · have hc : chg xs r x = true := hcnd
        exact sub_ml rfl (by simp (decide := true) only [go_sem, reduceIte, reduceCtorEq, Nat.reduceEqDiff, Nat.reduceAdd, Nat.reduceMul, Nat.reduceSub, Nat.reduceLeDiff, Nat.reduceBEq, hf, hc, ints, List.map_append]) (by simp (decide := true) only [go_sem, reduceIte, reduceCtorEq, Nat.reduceEqDiff, Nat.reduceAdd, Nat.reduceMul, Nat.reduceSub, Nat.reduceLeDiff, Nat.reduceBEq, Rcd.row])
      · have hc : chg xs r x = false := hcnd
        exact sub_ml rfl (by simp (decide := true) only [go_sem, reduceIte, reduceCtorEq, Nat.reduceEqDiff, Nat.reduceAdd, Nat.reduceMul, Nat.reduceSub, Nat.reduceLeDiff, Nat.reduceBEq, hf, hc, List.append_nil]) (by simp (decide := true) only [go_sem, reduceIte, reduceCtorEq, Nat.reduceEqDiff, Nat.reduceAdd, Nat.reduceMul, Nat.reduceSub, Nat.reduceLeDiff, Nat.reduceBEq, Rcd.row])
    · intro hlt2
      rw [List.take_length]
      (repeat' (first | (refine dw_seq ?_) | (refine dw_block ?_) | ((first | (refine dw_reg (N := 46) rfl (by kernel_rfl) ?_) | (apply dw_drw (id := 11) (N := 46) [(0, .light), (1, .light), (2, .light), (3, .light), (4, .light), (5, .light), (6, .light), (7, .light), (8, .step), (9, .light)]; kernel_rfl; rfl; kernel_rfl; (repeat (first | exact Picks.nil | (apply Picks.cons; rfl)))) | (refine dw_skip ?_) | (refine dw_exit ?_)); simp (decide := true) only [go_sem, reduceIte, reduceCtorEq, Nat.reduceEqDiff, Nat.reduceAdd, Nat.reduceMul, Nat.reduceSub, Nat.reduceLeDiff, Nat.reduceBEq, hlt2]) | (apply dw_cond; (simp (decide := true) only [go_sem, reduceIte, reduceCtorEq, Nat.reduceEqDiff, Nat.reduceAdd, Nat.reduceMul, Nat.reduceSub, Nat.reduceLeDiff, Nat.reduceBEq, hlt2]; rfl); all_goals (intro hcnd; first | (exact absurd hcnd (by decide)) | skip)) | ((first | refine guardC_f ?_ ?_ | refine guardC_t ?_ ?_) <;> (intro hcnd; simp (decide := true) only [go_sem, reduceIte, reduceCtorEq, Nat.reduceEqDiff, Nat.reduceAdd, Nat.reduceMul, Nat.reduceSub, Nat.reduceLeDiff, Nat.reduceBEq, hcnd, hlt2]))))
      refine dw_weaken (sub_kn (N := 46) (sls := [(4, dv (.sl 1 (ints (daysK xs r))))]) (bx := noMem) rfl (by simp (decide := true) only [go_sem, reduceIte, reduceCtorEq, Nat.reduceEqDiff, Nat.reduceAdd, Nat.reduceMul, Nat.reduceSub, Nat.reduceLeDiff, Nat.reduceBEq, daysK]) (by simp [noMem])) ?_
      refine dw_ret ?_; simp (decide := true) only [go_sem, reduceIte, reduceCtorEq, Nat.reduceEqDiff, Nat.reduceAdd, Nat.reduceMul, Nat.reduceSub, Nat.reduceLeDiff, Nat.reduceBEq]

def daysR (xs : List Cons) (r : Rcd) : List Int := (cpt (daysOf xs)).filter (chg xs r)

set_option maxRecDepth 10000 in
set_option maxHeartbeats 2000000 in
--F21
theorem rDays_D (xs : List Cons) (r : Rcd) (hl : xs.length ≤ 1000000) (hs : r.sp.length ≤ 1000000) : DCalls Try.prog 21 [dv (.sl 4 (xs.map Cons.enc)), .agg r.row] (dv (.sl 1 (ints (daysR xs r)))) := by
  have hmax : maxLen = 9223372036854775807 := rfl
  refine dcalls (N := 46) (rs := [.tmp 4]) (by kernel_rfl) Try.func21 rfl rfl rfl (by simp) ?_
  (repeat (first | (refine dw_seq ?_) | (refine dw_block ?_) | ((first | (refine dw_reg (N := 46) rfl (by kernel_rfl) ?_) | (apply dw_drw (id := 7) (N := 46) [(0, .light), (1, .light), (2, .light), (3, .light), (4, .light), (5, .light), (6, .light), (7, .light), (8, .step), (9, .light)]; kernel_rfl; rfl; kernel_rfl; (repeat (first | exact Picks.nil | (apply Picks.cons; rfl)))) | (refine dw_skip ?_) | (refine dw_exit ?_)); simp (decide := true) only [go_sem, reduceIte, reduceCtorEq, Nat.reduceEqDiff, Nat.reduceAdd, Nat.reduceMul, Nat.reduceSub, Nat.reduceLeDiff, Nat.reduceBEq, Rcd.row])))
  refine dw_own 5 5 1 (by simp (decide := true) only [go_sem, reduceIte, reduceCtorEq, Nat.reduceEqDiff, Nat.reduceAdd, Nat.reduceMul, Nat.reduceSub, Nat.reduceLeDiff, Nat.reduceBEq]) ?_
  refine dw_rng0 xs (fun k => kn 46 [(0, dv (.sl 4 (xs.map Cons.enc))), (3, .one (.bx 3 5 0 0)), (5, .one (.own 5 1 (ints ((cpt ((daysOf xs).take k)).filter (chg xs r))))), (6, dv (li k))] (ml [(3, [r.row])])) (by omega) (sub_ml rfl (by simp (decide := true) only [go_sem, reduceIte, reduceCtorEq, Nat.reduceEqDiff, Nat.reduceAdd, Nat.reduceMul, Nat.reduceSub, Nat.reduceLeDiff, Nat.reduceBEq, List.take_zero, cpt, cptF, List.filter_nil, ints]) (by simp (decide := true) only [go_sem, reduceIte, reduceCtorEq, Nat.reduceEqDiff, Nat.reduceAdd, Nat.reduceMul, Nat.reduceSub, Nat.reduceLeDiff, Nat.reduceBEq] <;> rfl)) ?_ ?_
  · intro k c hc hk hm htk hlt hw
    have hle : ((cpt ((daysOf xs).take k)).filter (chg xs r)).length ≤ k := by
      have h1 := List.length_filter_le (chg xs r) (cpt ((daysOf xs).take k))
      have h2 := cptF_len ((daysOf xs).take k) none
      have h3 : ((daysOf xs).take k).length ≤ k := by simp; omega
      simp only [cpt] at h1 ⊢; omega
    have hb : (((cpt ((daysOf xs).take k)).filter (chg xs r)).length + 1) * 8 ≤ 140737488355328 := by omega
    have hdk : (daysOf xs)[k]? = some c.day := by simp [daysOf, hc]
    have fin : ∀ e : Bool, (cpt ((daysOf xs).take (k + 1)) = cpt ((daysOf xs).take k) ++ if e then [] else [c.day]) → (cpt ((daysOf xs).take (k + 1))).filter (chg xs r) = (cpt ((daysOf xs).take k)).filter (chg xs r) ++ if e then [] else if chg xs r c.day then [c.day] else [] := fun e he => by
      rw [he, List.filter_append]; congr 1; cases e
      · simp [List.filter_cons]
      · simp
    cases h0 : decide ((0 : Int) < (k : Int))
    · have hk0 : k = 0 := by simp at h0; omega
      have hcp := fin false (by subst hk0; rw [take_snoc hdk, List.take_zero]; rfl)
      (repeat' (first | (refine dw_seq ?_) | (refine dw_block ?_) | ((first | (refine dw_reg (N := 46) rfl (by kernel_rfl) ?_) | (apply dw_drw (id := 7) (N := 46) [(0, .light), (1, .light), (2, .light), (3, .light), (4, .light), (5, .light), (6, .light), (7, .light), (8, .step), (9, .light)]; kernel_rfl; rfl; kernel_rfl; (repeat (first | exact Picks.nil | (apply Picks.cons; rfl)))) | (refine dw_skip ?_) | (refine dw_exit ?_) | (refine CallC.mk (rLeast_D xs r c.day hl hs) (LeL.of_eq rfl) ?_) | (refine CallC.light (rLeast_D xs r c.day hl hs) (LeL.of_eq rfl) ?_) | (refine CallC.mk (rLeast_D xs r (IntKind.wrap .i64 (c.day - 1)) hl hs) (LeL.of_eq rfl) ?_) | (refine CallC.light (rLeast_D xs r (IntKind.wrap .i64 (c.day - 1)) hl hs) (LeL.of_eq rfl) ?_) | (refine dw_ret ?_)); simp (decide := true) only [go_sem, reduceIte, reduceCtorEq, Nat.reduceEqDiff, Nat.reduceAdd, Nat.reduceMul, Nat.reduceSub, Nat.reduceLeDiff, Nat.reduceBEq, hlt, hw, hc, h0, Cons.enc, hb, Rcd.row]) | (apply dw_cond; (simp (decide := true) only [go_sem, reduceIte, reduceCtorEq, Nat.reduceEqDiff, Nat.reduceAdd, Nat.reduceMul, Nat.reduceSub, Nat.reduceLeDiff, Nat.reduceBEq, hlt, hw, hc, h0, Cons.enc, hb, Rcd.row]; rfl); all_goals (intro hcnd; first | (exact absurd hcnd (by decide)) | skip)) | ((first | refine guardC_f ?_ ?_ | refine guardC_t ?_ ?_) <;> (intro hcnd; simp (decide := true) only [go_sem, reduceIte, reduceCtorEq, Nat.reduceEqDiff, Nat.reduceAdd, Nat.reduceMul, Nat.reduceSub, Nat.reduceLeDiff, Nat.reduceBEq, hcnd, hlt, hw, hc, h0, Cons.enc, hb, Rcd.row]))))
      · have hcc : chg xs r c.day = true := hcnd
        exact sub_ml rfl (by simp (decide := true) only [go_sem, reduceIte, reduceCtorEq, Nat.reduceEqDiff, Nat.reduceAdd, Nat.reduceMul, Nat.reduceSub, Nat.reduceLeDiff, Nat.reduceBEq, hcp, hcc, ints, List.map_append]) (by simp (decide := true) only [go_sem, reduceIte, reduceCtorEq, Nat.reduceEqDiff, Nat.reduceAdd, Nat.reduceMul, Nat.reduceSub, Nat.reduceLeDiff, Nat.reduceBEq, Rcd.row])
      · have hcc : chg xs r c.day = false := hcnd
        exact sub_ml rfl (by simp (decide := true) only [go_sem, reduceIte, reduceCtorEq, Nat.reduceEqDiff, Nat.reduceAdd, Nat.reduceMul, Nat.reduceSub, Nat.reduceLeDiff, Nat.reduceBEq, hcp, hcc, List.append_nil]) (by simp (decide := true) only [go_sem, reduceIte, reduceCtorEq, Nat.reduceEqDiff, Nat.reduceAdd, Nat.reduceMul, Nat.reduceSub, Nat.reduceLeDiff, Nat.reduceBEq, Rcd.row])
    · have hk0 : 0 < k := by simp at h0; omega
      have hkl : k - 1 < xs.length := by omega
      have hc1 : xs[k - 1]? = some xs[k - 1] := List.getElem?_eq_getElem hkl
      have hw2 : IntKind.wrap .i64 ((k : Int) - 1) = ((k - 1 : Nat) : Int) := by rw [wrap_i64 (by omega) (by omega)]; omega
      have hdk1 : (daysOf xs)[k - 1]? = some xs[k - 1].day := by simp [daysOf, hkl]
      have hcp := fin (xs[k - 1].day == c.day) (by
        obtain ⟨m, rfl⟩ : ∃ m, k = m + 1 := ⟨k - 1, by omega⟩
        rw [cpt_take hdk hdk1]; simp)
      cases he : xs[k - 1].day == c.day
      · rw [he] at hcp
        (repeat' (first | (refine dw_seq ?_) | (refine dw_block ?_) | ((first | (refine dw_reg (N := 46) rfl (by kernel_rfl) ?_) | (apply dw_drw (id := 7) (N := 46) [(0, .light), (1, .light), (2, .light), (3, .light), (4, .light), (5, .light), (6, .light), (7, .light), (8, .step), (9, .light)]; kernel_rfl; rfl; kernel_rfl; (repeat (first | exact Picks.nil | (apply Picks.cons; rfl)))) | (refine dw_skip ?_) | (refine dw_exit ?_) | (refine CallC.mk (rLeast_D xs r c.day hl hs) (LeL.of_eq rfl) ?_) | (refine CallC.light (rLeast_D xs r c.day hl hs) (LeL.of_eq rfl) ?_) | (refine CallC.mk (rLeast_D xs r (IntKind.wrap .i64 (c.day - 1)) hl hs) (LeL.of_eq rfl) ?_) | (refine CallC.light (rLeast_D xs r (IntKind.wrap .i64 (c.day - 1)) hl hs) (LeL.of_eq rfl) ?_) | (refine dw_ret ?_)); simp (decide := true) only [go_sem, reduceIte, reduceCtorEq, Nat.reduceEqDiff, Nat.reduceAdd, Nat.reduceMul, Nat.reduceSub, Nat.reduceLeDiff, Nat.reduceBEq, hlt, hw, hc, h0, hw2, hc1, he, Cons.enc, hb, Rcd.row]) | (apply dw_cond; (simp (decide := true) only [go_sem, reduceIte, reduceCtorEq, Nat.reduceEqDiff, Nat.reduceAdd, Nat.reduceMul, Nat.reduceSub, Nat.reduceLeDiff, Nat.reduceBEq, hlt, hw, hc, h0, hw2, hc1, he, Cons.enc, hb, Rcd.row]; rfl); all_goals (intro hcnd; first | (exact absurd hcnd (by decide)) | skip)) | ((first | refine guardC_f ?_ ?_ | refine guardC_t ?_ ?_) <;> (intro hcnd; simp (decide := true) only [go_sem, reduceIte, reduceCtorEq, Nat.reduceEqDiff, Nat.reduceAdd, Nat.reduceMul, Nat.reduceSub, Nat.reduceLeDiff, Nat.reduceBEq, hcnd, hlt, hw, hc, h0, hw2, hc1, he, Cons.enc, hb, Rcd.row]))))
        · have hcc : chg xs r c.day = true := hcnd
          exact sub_ml rfl (by simp (decide := true) only [go_sem, reduceIte, reduceCtorEq, Nat.reduceEqDiff, Nat.reduceAdd, Nat.reduceMul, Nat.reduceSub, Nat.reduceLeDiff, Nat.reduceBEq, hcp, hcc, ints, List.map_append]) (by simp (decide := true) only [go_sem, reduceIte, reduceCtorEq, Nat.reduceEqDiff, Nat.reduceAdd, Nat.reduceMul, Nat.reduceSub, Nat.reduceLeDiff, Nat.reduceBEq, Rcd.row])
        · have hcc : chg xs r c.day = false := hcnd
          exact sub_ml rfl (by simp (decide := true) only [go_sem, reduceIte, reduceCtorEq, Nat.reduceEqDiff, Nat.reduceAdd, Nat.reduceMul, Nat.reduceSub, Nat.reduceLeDiff, Nat.reduceBEq, hcp, hcc, List.append_nil]) (by simp (decide := true) only [go_sem, reduceIte, reduceCtorEq, Nat.reduceEqDiff, Nat.reduceAdd, Nat.reduceMul, Nat.reduceSub, Nat.reduceLeDiff, Nat.reduceBEq, Rcd.row])
      · rw [he] at hcp
        (repeat' (first | (refine dw_seq ?_) | (refine dw_block ?_) | ((first | (refine dw_reg (N := 46) rfl (by kernel_rfl) ?_) | (apply dw_drw (id := 7) (N := 46) [(0, .light), (1, .light), (2, .light), (3, .light), (4, .light), (5, .light), (6, .light), (7, .light), (8, .step), (9, .light)]; kernel_rfl; rfl; kernel_rfl; (repeat (first | exact Picks.nil | (apply Picks.cons; rfl)))) | (refine dw_skip ?_) | (refine dw_exit ?_)); simp (decide := true) only [go_sem, reduceIte, reduceCtorEq, Nat.reduceEqDiff, Nat.reduceAdd, Nat.reduceMul, Nat.reduceSub, Nat.reduceLeDiff, Nat.reduceBEq, hlt, hw, hc, h0, hw2, hc1, he, Cons.enc, hb, Rcd.row]) | (apply dw_cond; (simp (decide := true) only [go_sem, reduceIte, reduceCtorEq, Nat.reduceEqDiff, Nat.reduceAdd, Nat.reduceMul, Nat.reduceSub, Nat.reduceLeDiff, Nat.reduceBEq, hlt, hw, hc, h0, hw2, hc1, he, Cons.enc, hb, Rcd.row]; rfl); all_goals (intro hcnd; first | (exact absurd hcnd (by decide)) | skip)) | ((first | refine guardC_f ?_ ?_ | refine guardC_t ?_ ?_) <;> (intro hcnd; simp (decide := true) only [go_sem, reduceIte, reduceCtorEq, Nat.reduceEqDiff, Nat.reduceAdd, Nat.reduceMul, Nat.reduceSub, Nat.reduceLeDiff, Nat.reduceBEq, hcnd, hlt, hw, hc, h0, hw2, hc1, he, Cons.enc, hb, Rcd.row]))))
        exact sub_ml rfl (by simp (decide := true) only [go_sem, reduceIte, reduceCtorEq, Nat.reduceEqDiff, Nat.reduceAdd, Nat.reduceMul, Nat.reduceSub, Nat.reduceLeDiff, Nat.reduceBEq, hcp, List.append_nil]) (by simp (decide := true) only [go_sem, reduceIte, reduceCtorEq, Nat.reduceEqDiff, Nat.reduceAdd, Nat.reduceMul, Nat.reduceSub, Nat.reduceLeDiff, Nat.reduceBEq, Rcd.row])
  · intro hlt
    have htl : (daysOf xs).take xs.length = daysOf xs := List.take_of_length_le (by simp [daysOf])
    rw [htl]
    (repeat' (first | (refine dw_seq ?_) | (refine dw_block ?_) | ((first | (refine dw_reg (N := 46) rfl (by kernel_rfl) ?_) | (apply dw_drw (id := 7) (N := 46) [(0, .light), (1, .light), (2, .light), (3, .light), (4, .light), (5, .light), (6, .light), (7, .light), (8, .step), (9, .light)]; kernel_rfl; rfl; kernel_rfl; (repeat (first | exact Picks.nil | (apply Picks.cons; rfl)))) | (refine dw_skip ?_) | (refine dw_exit ?_)); simp (decide := true) only [go_sem, reduceIte, reduceCtorEq, Nat.reduceEqDiff, Nat.reduceAdd, Nat.reduceMul, Nat.reduceSub, Nat.reduceLeDiff, Nat.reduceBEq, hlt]) | (apply dw_cond; (simp (decide := true) only [go_sem, reduceIte, reduceCtorEq, Nat.reduceEqDiff, Nat.reduceAdd, Nat.reduceMul, Nat.reduceSub, Nat.reduceLeDiff, Nat.reduceBEq, hlt]; rfl); all_goals (intro hcnd; first | (exact absurd hcnd (by decide)) | skip)) | ((first | refine guardC_f ?_ ?_ | refine guardC_t ?_ ?_) <;> (intro hcnd; simp (decide := true) only [go_sem, reduceIte, reduceCtorEq, Nat.reduceEqDiff, Nat.reduceAdd, Nat.reduceMul, Nat.reduceSub, Nat.reduceLeDiff, Nat.reduceBEq, hcnd, hlt]))))
    refine dw_weaken (sub_kn (N := 46) (sls := [(4, dv (.sl 1 (ints (daysR xs r))))]) (bx := noMem) rfl (by simp (decide := true) only [go_sem, reduceIte, reduceCtorEq, Nat.reduceEqDiff, Nat.reduceAdd, Nat.reduceMul, Nat.reduceSub, Nat.reduceLeDiff, Nat.reduceBEq, daysR]) (by simp [noMem])) ?_
    refine dw_ret ?_; simp (decide := true) only [go_sem, reduceIte, reduceCtorEq, Nat.reduceEqDiff, Nat.reduceAdd, Nat.reduceMul, Nat.reduceSub, Nat.reduceLeDiff, Nat.reduceBEq]
end Go.Proofs.Ytbbocdcdidemmaa

/- Consents: Check on both sides; small functions. -/
namespace Go.Proofs.Ytbbocdcdidemmaa
open Go.Dl
attribute [local irreducible] DW DCalls ECalls wk IW

/-- The error of a consent; last: the day of the one before (0: none). -/
def oneErr (ps : List Pers) (last : Int) (c : Cons) : Int :=
  if (persOf ps c.person).2 = false then 9
  else if c.rcd < 0 ∨ 1099511627776 < c.rcd then 2
  else if c.day < 1 ∨ 109573 < c.day then 12
  else if c.kind < 0 ∨ 2 < c.kind then 14
  else if c.day < last then 10
  else 0

/-- The first error of a list of consents. -/
def errOf (ps : List Pers) : Int → List Cons → Int
  | _, [] => 0
  | last, c :: l => if oneErr ps last c = 0 then errOf ps c.day l else oneErr ps last c

def checkK (ps : List Pers) (l : List Cons) : Int := if 60 < l.length then 11 else errOf ps 0 l

/-- The day of the last. -/
def lastDay (z : Int) (l : List Cons) : Int := (l.getLast?.map (·.day)).getD z

theorem errOf_append (ps : List Pers) : ∀ (l m : List Cons) (z : Int), errOf ps z (l ++ m) = if errOf ps z l = 0 then errOf ps (lastDay z l) m else errOf ps z l
  | [], m, z => by simp [errOf, lastDay]
  | c :: l, m, z => by
    have hl : lastDay z (c :: l) = lastDay c.day l := by cases l <;> simp [lastDay, List.getLast?_cons]
    by_cases h : oneErr ps z c = 0
    · have e1 : ∀ l, errOf ps z (c :: l) = errOf ps c.day l := fun l => by simp [errOf, h]
      rw [List.cons_append, e1, e1, errOf_append ps l m c.day, hl]
    · have e1 : ∀ l, errOf ps z (c :: l) = oneErr ps z c := fun l => by simp [errOf, h]
      rw [List.cons_append, e1, e1, if_neg h]

set_option maxRecDepth 10000 in
set_option maxHeartbeats 4000000 in
--F12
theorem check_D (ps : List Pers) (xs : List Cons) (hp : ps.length ≤ 1000000) (hl : xs.length ≤ 1000000) : DCalls Try.prog 12 [dv (.sl 3 (ps.map Pers.enc)), dv (.sl 4 (xs.map Cons.enc))] (dv (li (checkK ps xs))) := by
  have hmax : maxLen = 9223372036854775807 := rfl
  refine dcalls (N := 59) (rs := [.tmp 4]) (by kernel_rfl) Try.func12 rfl rfl rfl (by simp) ?_
  (repeat (first | (refine dw_seq ?_) | (refine dw_block ?_) | ((first | (refine dw_reg (N := 59) rfl (by kernel_rfl) ?_) | (refine dw_skip ?_) | (refine dw_exit ?_)); simp (decide := true) only [go_sem, reduceIte, reduceCtorEq, Nat.reduceEqDiff, Nat.reduceAdd, Nat.reduceMul, Nat.reduceSub, Nat.reduceLeDiff, Nat.reduceBEq])))
  apply dw_cond; (simp (decide := true) only [go_sem, reduceIte, reduceCtorEq, Nat.reduceEqDiff, Nat.reduceAdd, Nat.reduceMul, Nat.reduceSub, Nat.reduceLeDiff, Nat.reduceBEq]; rfl)
  · intro hc
    (repeat (first | (refine dw_seq ?_) | (refine dw_block ?_) | ((first | (refine dw_reg (N := 59) rfl (by kernel_rfl) ?_) | (refine dw_skip ?_) | (refine dw_exit ?_)); simp (decide := true) only [go_sem, reduceIte, reduceCtorEq, Nat.reduceEqDiff, Nat.reduceAdd, Nat.reduceMul, Nat.reduceSub, Nat.reduceLeDiff, Nat.reduceBEq])))
    refine dw_ret ?_; simp (decide := true) only [go_sem, reduceIte, reduceCtorEq, Nat.reduceEqDiff, Nat.reduceAdd, Nat.reduceMul, Nat.reduceSub, Nat.reduceLeDiff, Nat.reduceBEq]
    simp [checkK]; simp at hc; omega
  · intro hc
    have hk : checkK ps xs = errOf ps 0 xs := by simp at hc; simp [checkK]; omega
    rw [hk]
    (repeat (first | (refine dw_seq ?_) | (refine dw_block ?_) | ((first | (refine dw_reg (N := 59) rfl (by kernel_rfl) ?_) | (refine dw_skip ?_) | (refine dw_exit ?_)); simp (decide := true) only [go_sem, reduceIte, reduceCtorEq, Nat.reduceEqDiff, Nat.reduceAdd, Nat.reduceMul, Nat.reduceSub, Nat.reduceLeDiff, Nat.reduceBEq])))
    refine dw_rngI xs (fun k => kn 59 [(0, dv (.sl 3 (ps.map Pers.enc))), (5, dv (li (lastDay 0 (xs.take k)))), (13, dv (.sl 4 (xs.map Cons.enc))), (14, dv (li xs.length)), (15, dv (li k))] noMem) (fun k => errOf ps 0 (xs.take k) = 0) (by omega) (sub_kn rfl (by simp (decide := true) only [go_sem, reduceIte, reduceCtorEq, Nat.reduceEqDiff, Nat.reduceAdd, Nat.reduceMul, Nat.reduceSub, Nat.reduceLeDiff, Nat.reduceBEq, List.take_zero, lastDay, List.getLast?_nil, Option.getD_none]) (by simp [noMem])) rfl ?_ ?_
    · intro k c hc hk hm htk hlt hw hi
      have hnext : errOf ps 0 (xs.take (k + 1)) = oneErr ps (lastDay 0 (xs.take k)) c := by
        rw [htk, errOf_append, if_pos hi]; simp only [errOf]; split <;> simp_all
      have hall : oneErr ps (lastDay 0 (xs.take k)) c ≠ 0 → errOf ps 0 xs = oneErr ps (lastDay 0 (xs.take k)) c := fun h => by
        rw [← hnext] at h ⊢
        rw [← List.take_append_drop (k + 1) xs, errOf_append, if_neg (by simpa using h)]; simp
      have key : ∀ z, oneErr ps (lastDay 0 (xs.take k)) c = z → z ≠ 0 → dv (li z) = dv (li (errOf ps 0 xs)) := fun z h1 h2 => by rw [hall (by rw [h1]; exact h2), h1]
      have hld : lastDay 0 (xs.take (k + 1)) = c.day := by rw [htk]; simp [lastDay]
      (repeat' (first | (refine dw_seq ?_) | (refine dw_block ?_) | ((first | (refine dw_reg (N := 59) rfl (by kernel_rfl) ?_) | (refine dw_skip ?_) | (refine dw_exit ?_) | (refine CallC.mk (person_D ps c.person hp) (LeL.of_eq rfl) ?_) | (refine CallC.light (person_D ps c.person hp) (LeL.of_eq rfl) ?_) | (refine dw_ret ?_)); simp (decide := true) only [go_sem, reduceIte, reduceCtorEq, Nat.reduceEqDiff, Nat.reduceAdd, Nat.reduceMul, Nat.reduceSub, Nat.reduceLeDiff, Nat.reduceBEq, hlt, hw, hc, Cons.enc, Pers.row]) | (apply dw_cond; (simp (decide := true) only [go_sem, reduceIte, reduceCtorEq, Nat.reduceEqDiff, Nat.reduceAdd, Nat.reduceMul, Nat.reduceSub, Nat.reduceLeDiff, Nat.reduceBEq, hlt, hw, hc, Cons.enc, Pers.row]; rfl); all_goals (intro hcnd; first | (exact absurd hcnd (by decide)) | skip)) | ((first | refine guardC_f ?_ ?_ | refine guardC_t ?_ ?_) <;> (intro hcnd; simp (decide := true) only [go_sem, reduceIte, reduceCtorEq, Nat.reduceEqDiff, Nat.reduceAdd, Nat.reduceMul, Nat.reduceSub, Nat.reduceLeDiff, Nat.reduceBEq, hcnd, hlt, hw, hc, Cons.enc, Pers.row]))))
      all_goals first
        | (refine key _ ?_ (by decide)
           clear key hall hnext hi hlt hw htk hm hc
           unfold oneErr; (repeat' split) <;> first | rfl | (exfalso; simp only [decide_eq_true_eq, decide_eq_false_iff_not, Bool.not_eq_true', Bool.not_eq_false'] at *; first | omega | simp_all))
        | (refine ⟨hnext.trans ?_, sub_kn rfl (by simp (decide := true) only [go_sem, reduceIte, reduceCtorEq, Nat.reduceEqDiff, Nat.reduceAdd, Nat.reduceMul, Nat.reduceSub, Nat.reduceLeDiff, Nat.reduceBEq, hld]) (by simp [noMem])⟩
           clear key hall hnext hi hlt hw htk hm hc
           unfold oneErr; (repeat' split) <;> first | rfl | (exfalso; simp only [decide_eq_true_eq, decide_eq_false_iff_not, Bool.not_eq_true', Bool.not_eq_false'] at *; first | omega | simp_all))
    · intro hlt hi
      rw [List.take_length] at hi
      (repeat' (first | (refine dw_seq ?_) | (refine dw_block ?_) | ((first | (refine dw_reg (N := 59) rfl (by kernel_rfl) ?_) | (refine dw_skip ?_) | (refine dw_exit ?_) | (refine dw_ret ?_)); simp (decide := true) only [go_sem, reduceIte, reduceCtorEq, Nat.reduceEqDiff, Nat.reduceAdd, Nat.reduceMul, Nat.reduceSub, Nat.reduceLeDiff, Nat.reduceBEq, hlt]) | (apply dw_cond; (simp (decide := true) only [go_sem, reduceIte, reduceCtorEq, Nat.reduceEqDiff, Nat.reduceAdd, Nat.reduceMul, Nat.reduceSub, Nat.reduceLeDiff, Nat.reduceBEq, hlt]; rfl); all_goals (intro hcnd; first | (exact absurd hcnd (by decide)) | skip)) | ((first | refine guardC_f ?_ ?_ | refine guardC_t ?_ ?_) <;> (intro hcnd; simp (decide := true) only [go_sem, reduceIte, reduceCtorEq, Nat.reduceEqDiff, Nat.reduceAdd, Nat.reduceMul, Nat.reduceSub, Nat.reduceLeDiff, Nat.reduceBEq, hcnd, hlt]))))
      rw [hi]
end Go.Proofs.Ytbbocdcdidemmaa

/- Consents: the reference's Check; few, right, Same, Has. -/
namespace Go.Proofs.Ytbbocdcdidemmaa
open Go.Dl
attribute [local irreducible] DW DCalls ECalls wk IW

set_option maxRecDepth 10000 in
set_option maxHeartbeats 4000000 in
--F28
theorem one_D (ps : List Pers) (xs : List Cons) (k : Nat) (c : Cons) (hc : xs[k]? = some c) (hp : ps.length ≤ 1000000) (hl : xs.length ≤ 1000000) :
    DCalls Try.prog 28 [dv (.sl 3 (ps.map Pers.enc)), dv (.sl 4 (xs.map Cons.enc)), dv (li k)] (dv (li (oneErr ps (lastDay 0 (xs.take k)) c))) := by
  have hmax : maxLen = 9223372036854775807 := rfl
  have hk : k < xs.length := (List.getElem?_eq_some_iff.1 hc).1
  refine dcalls (N := 65) (rs := [.tmp 6]) (by kernel_rfl) Try.func28 rfl rfl rfl (by simp) ?_
  cases h0 : decide ((0 : Int) < (k : Int))
  · have hk0 : k = 0 := by simp at h0; omega
    have hld : lastDay 0 (xs.take k) = 0 := by simp [hk0, lastDay]
    rw [hld]
    (repeat' (first | (refine dw_seq ?_) | (refine dw_block ?_) | ((first | (refine dw_reg (N := 65) rfl (by kernel_rfl) ?_) | (apply dw_drw (id := 11) (N := 65) [(0, .light), (1, .light), (2, .light), (3, .light), (4, .light), (5, .light), (6, .light), (7, .light), (8, .light), (9, .light), (10, .light), (11, .light), (12, .light), (13, .light)]; kernel_rfl; rfl; kernel_rfl; (repeat (first | exact Picks.nil | (apply Picks.cons; rfl)))) | (refine dw_skip ?_) | (refine dw_exit ?_) | (refine CallC.mk (rPerson_D ps c.person hp) (LeL.of_eq rfl) ?_) | (refine CallC.light (rPerson_D ps c.person hp) (LeL.of_eq rfl) ?_) | (refine dw_ret ?_)); simp (decide := true) only [go_sem, reduceIte, reduceCtorEq, Nat.reduceEqDiff, Nat.reduceAdd, Nat.reduceMul, Nat.reduceSub, Nat.reduceLeDiff, Nat.reduceBEq, hc, h0, Cons.enc, Pers.row]) | (apply dw_cond; (simp (decide := true) only [go_sem, reduceIte, reduceCtorEq, Nat.reduceEqDiff, Nat.reduceAdd, Nat.reduceMul, Nat.reduceSub, Nat.reduceLeDiff, Nat.reduceBEq, hc, h0, Cons.enc, Pers.row]; rfl); all_goals (intro hcnd; first | (exact absurd hcnd (by decide)) | skip)) | ((first | refine guardC_f ?_ ?_ | refine guardC_t ?_ ?_) <;> (intro hcnd; simp (decide := true) only [go_sem, reduceIte, reduceCtorEq, Nat.reduceEqDiff, Nat.reduceAdd, Nat.reduceMul, Nat.reduceSub, Nat.reduceLeDiff, Nat.reduceBEq, hcnd, hc, h0, Cons.enc, Pers.row]))))
    all_goals
      congr 3
      clear hc h0 hld
      unfold oneErr; (repeat' split) <;> first | rfl | (exfalso; simp only [decide_eq_true_eq, decide_eq_false_iff_not, Bool.not_eq_true', Bool.not_eq_false'] at *; first | omega | simp_all)
  · have hk0 : 0 < k := by simp at h0; omega
    have hkl : k - 1 < xs.length := by omega
    have hc1 : xs[k - 1]? = some xs[k - 1] := List.getElem?_eq_getElem hkl
    have hw2 : IntKind.wrap .i64 ((k : Int) - 1) = ((k - 1 : Nat) : Int) := by rw [wrap_i64 (by omega) (by omega)]; omega
    have hld : lastDay 0 (xs.take k) = xs[k - 1].day := by
      obtain ⟨m, rfl⟩ : ∃ m, k = m + 1 := ⟨k - 1, by omega⟩
      have hc2 : xs[m]? = some xs[m] := hc1
      rw [take_snoc hc2, lastDay, List.getLast?_concat]; rfl
    rw [hld]
    (repeat' (first | (refine dw_seq ?_) | (refine dw_block ?_) | ((first | (refine dw_reg (N := 65) rfl (by kernel_rfl) ?_) | (apply dw_drw (id := 11) (N := 65) [(0, .light), (1, .light), (2, .light), (3, .light), (4, .light), (5, .light), (6, .light), (7, .light), (8, .light), (9, .light), (10, .light), (11, .light), (12, .light), (13, .light)]; kernel_rfl; rfl; kernel_rfl; (repeat (first | exact Picks.nil | (apply Picks.cons; rfl)))) | (refine dw_skip ?_) | (refine dw_exit ?_) | (refine CallC.mk (rPerson_D ps c.person hp) (LeL.of_eq rfl) ?_) | (refine CallC.light (rPerson_D ps c.person hp) (LeL.of_eq rfl) ?_) | (refine dw_ret ?_)); simp (decide := true) only [go_sem, reduceIte, reduceCtorEq, Nat.reduceEqDiff, Nat.reduceAdd, Nat.reduceMul, Nat.reduceSub, Nat.reduceLeDiff, Nat.reduceBEq, hc, h0, hw2, hc1, Cons.enc, Pers.row]) | (apply dw_cond; (simp (decide := true) only [go_sem, reduceIte, reduceCtorEq, Nat.reduceEqDiff, Nat.reduceAdd, Nat.reduceMul, Nat.reduceSub, Nat.reduceLeDiff, Nat.reduceBEq, hc, h0, hw2, hc1, Cons.enc, Pers.row]; rfl); all_goals (intro hcnd; first | (exact absurd hcnd (by decide)) | skip)) | ((first | refine guardC_f ?_ ?_ | refine guardC_t ?_ ?_) <;> (intro hcnd; simp (decide := true) only [go_sem, reduceIte, reduceCtorEq, Nat.reduceEqDiff, Nat.reduceAdd, Nat.reduceMul, Nat.reduceSub, Nat.reduceLeDiff, Nat.reduceBEq, hcnd, hc, h0, hw2, hc1, Cons.enc, Pers.row]))))
    all_goals
      congr 3
      clear hc h0 hld hw2 hc1
      unfold oneErr; (repeat' split) <;> first | rfl | (exfalso; simp only [decide_eq_true_eq, decide_eq_false_iff_not, Bool.not_eq_true', Bool.not_eq_false'] at *; first | omega | simp_all)

set_option maxRecDepth 10000 in
set_option maxHeartbeats 4000000 in
--F13
theorem rCheck_D (ps : List Pers) (xs : List Cons) (hp : ps.length ≤ 1000000) (hl : xs.length ≤ 1000000) : DCalls Try.prog 13 [dv (.sl 3 (ps.map Pers.enc)), dv (.sl 4 (xs.map Cons.enc))] (dv (li (checkK ps xs))) := by
  have hmax : maxLen = 9223372036854775807 := rfl
  refine dcalls (N := 23) (rs := [.tmp 4]) (by kernel_rfl) Try.func13 rfl rfl rfl (by simp) ?_
  (repeat (first | (refine dw_seq ?_) | (refine dw_block ?_) | ((first | (refine dw_reg (N := 23) rfl (by kernel_rfl) ?_) | (refine dw_skip ?_) | (refine dw_exit ?_)); simp (decide := true) only [go_sem, reduceIte, reduceCtorEq, Nat.reduceEqDiff, Nat.reduceAdd, Nat.reduceMul, Nat.reduceSub, Nat.reduceLeDiff, Nat.reduceBEq])))
  apply dw_cond; (simp (decide := true) only [go_sem, reduceIte, reduceCtorEq, Nat.reduceEqDiff, Nat.reduceAdd, Nat.reduceMul, Nat.reduceSub, Nat.reduceLeDiff, Nat.reduceBEq]; rfl)
  · intro hc
    (repeat (first | (refine dw_seq ?_) | (refine dw_block ?_) | ((first | (refine dw_reg (N := 23) rfl (by kernel_rfl) ?_) | (refine dw_skip ?_) | (refine dw_exit ?_)); simp (decide := true) only [go_sem, reduceIte, reduceCtorEq, Nat.reduceEqDiff, Nat.reduceAdd, Nat.reduceMul, Nat.reduceSub, Nat.reduceLeDiff, Nat.reduceBEq])))
    refine dw_ret ?_; simp (decide := true) only [go_sem, reduceIte, reduceCtorEq, Nat.reduceEqDiff, Nat.reduceAdd, Nat.reduceMul, Nat.reduceSub, Nat.reduceLeDiff, Nat.reduceBEq]
    simp [checkK]; simp at hc; omega
  · intro hc
    have hk : checkK ps xs = errOf ps 0 xs := by simp at hc; simp [checkK]; omega
    rw [hk]
    (repeat (first | (refine dw_seq ?_) | (refine dw_block ?_) | ((first | (refine dw_reg (N := 23) rfl (by kernel_rfl) ?_) | (refine dw_skip ?_) | (refine dw_exit ?_)); simp (decide := true) only [go_sem, reduceIte, reduceCtorEq, Nat.reduceEqDiff, Nat.reduceAdd, Nat.reduceMul, Nat.reduceSub, Nat.reduceLeDiff, Nat.reduceBEq])))
    refine dw_rngI xs (fun k => kn 23 [(0, dv (.sl 3 (ps.map Pers.enc))), (1, dv (.sl 4 (xs.map Cons.enc))), (5, dv (li k))] noMem) (fun k => errOf ps 0 (xs.take k) = 0) (by omega) (sub_kn rfl (by simp (decide := true) only [go_sem, reduceIte, reduceCtorEq, Nat.reduceEqDiff, Nat.reduceAdd, Nat.reduceMul, Nat.reduceSub, Nat.reduceLeDiff, Nat.reduceBEq]) (by simp [noMem])) rfl ?_ ?_
    · intro k c hc hk hm htk hlt hw hi
      have hnext : errOf ps 0 (xs.take (k + 1)) = oneErr ps (lastDay 0 (xs.take k)) c := by
        rw [htk, errOf_append, if_pos hi]; simp only [errOf]; split <;> simp_all
      have hall : oneErr ps (lastDay 0 (xs.take k)) c ≠ 0 → errOf ps 0 xs = oneErr ps (lastDay 0 (xs.take k)) c := fun h => by
        rw [← hnext] at h ⊢
        rw [← List.take_append_drop (k + 1) xs, errOf_append, if_neg (by simpa using h)]; simp
      (repeat' (first | (refine dw_seq ?_) | (refine dw_block ?_) | ((first | (refine dw_reg (N := 23) rfl (by kernel_rfl) ?_) | (refine dw_skip ?_) | (refine dw_exit ?_) | (refine CallC.mk (one_D ps xs k c hc hp hl) (LeL.of_eq rfl) ?_) | (refine CallC.light (one_D ps xs k c hc hp hl) (LeL.of_eq rfl) ?_) | (refine dw_ret ?_)); simp (decide := true) only [go_sem, reduceIte, reduceCtorEq, Nat.reduceEqDiff, Nat.reduceAdd, Nat.reduceMul, Nat.reduceSub, Nat.reduceLeDiff, Nat.reduceBEq, hlt, hw, hc, Cons.enc, Pers.row]) | (apply dw_cond; (simp (decide := true) only [go_sem, reduceIte, reduceCtorEq, Nat.reduceEqDiff, Nat.reduceAdd, Nat.reduceMul, Nat.reduceSub, Nat.reduceLeDiff, Nat.reduceBEq, hlt, hw, hc, Cons.enc, Pers.row]; rfl); all_goals (intro hcnd; first | (exact absurd hcnd (by decide)) | skip)) | ((first | refine guardC_f ?_ ?_ | refine guardC_t ?_ ?_) <;> (intro hcnd; simp (decide := true) only [go_sem, reduceIte, reduceCtorEq, Nat.reduceEqDiff, Nat.reduceAdd, Nat.reduceMul, Nat.reduceSub, Nat.reduceLeDiff, Nat.reduceBEq, hcnd, hlt, hw, hc, Cons.enc, Pers.row]))))
      · rw [hall (by simpa using hcnd)]
      · exact ⟨hnext.trans (by simpa using hcnd), sub_kn rfl (by simp (decide := true) only [go_sem, reduceIte, reduceCtorEq, Nat.reduceEqDiff, Nat.reduceAdd, Nat.reduceMul, Nat.reduceSub, Nat.reduceLeDiff, Nat.reduceBEq]) (by simp [noMem])⟩
    · intro hlt hi
      rw [List.take_length] at hi
      (repeat' (first | (refine dw_seq ?_) | (refine dw_block ?_) | ((first | (refine dw_reg (N := 23) rfl (by kernel_rfl) ?_) | (refine dw_skip ?_) | (refine dw_exit ?_) | (refine dw_ret ?_)); simp (decide := true) only [go_sem, reduceIte, reduceCtorEq, Nat.reduceEqDiff, Nat.reduceAdd, Nat.reduceMul, Nat.reduceSub, Nat.reduceLeDiff, Nat.reduceBEq, hlt]) | (apply dw_cond; (simp (decide := true) only [go_sem, reduceIte, reduceCtorEq, Nat.reduceEqDiff, Nat.reduceAdd, Nat.reduceMul, Nat.reduceSub, Nat.reduceLeDiff, Nat.reduceBEq, hlt]; rfl); all_goals (intro hcnd; first | (exact absurd hcnd (by decide)) | skip)) | ((first | refine guardC_f ?_ ?_ | refine guardC_t ?_ ?_) <;> (intro hcnd; simp (decide := true) only [go_sem, reduceIte, reduceCtorEq, Nat.reduceEqDiff, Nat.reduceAdd, Nat.reduceMul, Nat.reduceSub, Nat.reduceLeDiff, Nat.reduceBEq, hcnd, hlt]))))
      rw [hi]

def fewK (ps : List Pers) (xs : List Cons) : Bool := decide (ps.length ≤ 50) && decide (xs.length ≤ 80) && ps.all fun p => decide (p.name.size ≤ 100)

set_option maxRecDepth 10000 in
set_option maxHeartbeats 4000000 in
--F10
theorem few_D (ps : List Pers) (xs : List Cons) : DCalls Try.prog 10 [dv (.sl 3 (ps.map Pers.enc)), dv (.sl 4 (xs.map Cons.enc))] (dv (lb (fewK ps xs))) := by
  have hmax : maxLen = 9223372036854775807 := rfl
  refine dcalls (N := 27) (rs := [.tmp 4]) (by kernel_rfl) Try.func10 rfl rfl rfl (by simp) ?_
  (repeat' (first | (refine dw_seq ?_) | (refine dw_block ?_) | ((first | (refine dw_reg (N := 27) rfl (by kernel_rfl) ?_) | (refine dw_skip ?_) | (refine dw_exit ?_) | (refine dw_ret ?_)); simp (decide := true) only [go_sem, reduceIte, reduceCtorEq, Nat.reduceEqDiff, Nat.reduceAdd, Nat.reduceMul, Nat.reduceSub, Nat.reduceLeDiff, Nat.reduceBEq]) | (apply dw_cond; (simp (decide := true) only [go_sem, reduceIte, reduceCtorEq, Nat.reduceEqDiff, Nat.reduceAdd, Nat.reduceMul, Nat.reduceSub, Nat.reduceLeDiff, Nat.reduceBEq]; rfl); all_goals (intro hcnd; first | (exact absurd hcnd (by decide)) | skip)) | ((first | refine guardC_f ?_ ?_ | refine guardC_t ?_ ?_) <;> (intro hcnd; simp (decide := true) only [go_sem, reduceIte, reduceCtorEq, Nat.reduceEqDiff, Nat.reduceAdd, Nat.reduceMul, Nat.reduceSub, Nat.reduceLeDiff, Nat.reduceBEq, hcnd]))))
  · simp at *; simp [fewK]; omega
  · simp at *; simp [fewK]; omega
  · have hp : ps.length ≤ 50 := by simp at *; omega
    have hx : xs.length ≤ 80 := by simp at *; omega
    have hf : fewK ps xs = ps.all fun p => decide (p.name.size ≤ 100) := by simp [fewK, hp, hx]
    rw [hf]
    refine dw_rngI ps (fun k => kn 27 [(0, dv (.sl 3 (ps.map Pers.enc))), (5, dv (li k))] noMem) (fun k => ∀ p ∈ ps.take k, p.name.size ≤ 100) (by omega) (sub_kn rfl (by simp (decide := true) only [go_sem, reduceIte, reduceCtorEq, Nat.reduceEqDiff, Nat.reduceAdd, Nat.reduceMul, Nat.reduceSub, Nat.reduceLeDiff, Nat.reduceBEq]) (by simp [noMem])) (by simp) ?_ ?_
    · intro k c hc hk hm htk hlt hw hi
      (repeat' (first | (refine dw_seq ?_) | (refine dw_block ?_) | ((first | (refine dw_reg (N := 27) rfl (by kernel_rfl) ?_) | (refine dw_skip ?_) | (refine dw_exit ?_) | (refine dw_ret ?_)); simp (decide := true) only [go_sem, reduceIte, reduceCtorEq, Nat.reduceEqDiff, Nat.reduceAdd, Nat.reduceMul, Nat.reduceSub, Nat.reduceLeDiff, Nat.reduceBEq, hlt, hw, hc, Pers.enc]) | (apply dw_cond; (simp (decide := true) only [go_sem, reduceIte, reduceCtorEq, Nat.reduceEqDiff, Nat.reduceAdd, Nat.reduceMul, Nat.reduceSub, Nat.reduceLeDiff, Nat.reduceBEq, hlt, hw, hc, Pers.enc]; rfl); all_goals (intro hcnd; first | (exact absurd hcnd (by decide)) | skip)) | ((first | refine guardC_f ?_ ?_ | refine guardC_t ?_ ?_) <;> (intro hcnd; simp (decide := true) only [go_sem, reduceIte, reduceCtorEq, Nat.reduceEqDiff, Nat.reduceAdd, Nat.reduceMul, Nat.reduceSub, Nat.reduceLeDiff, Nat.reduceBEq, hcnd, hlt, hw, hc, Pers.enc]))))
      · rw [all_false hm]; simp at hcnd ⊢; omega
      · exact ⟨forall_snoc htk hi (by simp at hcnd; omega), sub_kn rfl (by simp (decide := true) only [go_sem, reduceIte, reduceCtorEq, Nat.reduceEqDiff, Nat.reduceAdd, Nat.reduceMul, Nat.reduceSub, Nat.reduceLeDiff, Nat.reduceBEq]) (by simp [noMem])⟩
    · intro hlt hi
      rw [List.take_length] at hi
      (repeat' (first | (refine dw_seq ?_) | (refine dw_block ?_) | ((first | (refine dw_reg (N := 27) rfl (by kernel_rfl) ?_) | (refine dw_skip ?_) | (refine dw_exit ?_) | (refine dw_ret ?_)); simp (decide := true) only [go_sem, reduceIte, reduceCtorEq, Nat.reduceEqDiff, Nat.reduceAdd, Nat.reduceMul, Nat.reduceSub, Nat.reduceLeDiff, Nat.reduceBEq, hlt]) | (apply dw_cond; (simp (decide := true) only [go_sem, reduceIte, reduceCtorEq, Nat.reduceEqDiff, Nat.reduceAdd, Nat.reduceMul, Nat.reduceSub, Nat.reduceLeDiff, Nat.reduceBEq, hlt]; rfl); all_goals (intro hcnd; first | (exact absurd hcnd (by decide)) | skip)) | ((first | refine guardC_f ?_ ?_ | refine guardC_t ?_ ?_) <;> (intro hcnd; simp (decide := true) only [go_sem, reduceIte, reduceCtorEq, Nat.reduceEqDiff, Nat.reduceAdd, Nat.reduceMul, Nat.reduceSub, Nat.reduceLeDiff, Nat.reduceBEq, hcnd, hlt]))))
      rw [List.all_eq_true.2 (by simpa using hi)]

def rightK (ps : List Pers) (xs : List Cons) : Bool := fewK ps xs && (checkK ps xs == 0)

theorem few_le {ps : List Pers} {xs : List Cons} (h : fewK ps xs = true) : ps.length ≤ 50 ∧ xs.length ≤ 80 := by
  simp only [fewK, Bool.and_eq_true, decide_eq_true_eq] at h; exact ⟨h.1.1, h.1.2⟩

set_option maxRecDepth 10000 in
set_option maxHeartbeats 4000000 in
--F14
theorem right_D (ps : List Pers) (xs : List Cons) : DCalls Try.prog 14 [dv (.sl 3 (ps.map Pers.enc)), dv (.sl 4 (xs.map Cons.enc))] (dv (lb (rightK ps xs))) := by
  refine dcalls (N := 14) (rs := [.tmp 4]) (by kernel_rfl) Try.func14 rfl rfl rfl (by simp) ?_
  cases hf : fewK ps xs
  · (repeat' (first | (refine dw_seq ?_) | (refine dw_block ?_) | ((first | (refine dw_reg (N := 14) rfl (by kernel_rfl) ?_) | (refine dw_skip ?_) | (refine dw_exit ?_) | (refine CallC.mk (few_D ps xs) (LeL.of_eq rfl) ?_) | (refine CallC.light (few_D ps xs) (LeL.of_eq rfl) ?_) | (refine dw_ret ?_)); simp (decide := true) only [go_sem, reduceIte, reduceCtorEq, Nat.reduceEqDiff, Nat.reduceAdd, Nat.reduceMul, Nat.reduceSub, Nat.reduceLeDiff, Nat.reduceBEq, hf]) | (apply dw_cond; (simp (decide := true) only [go_sem, reduceIte, reduceCtorEq, Nat.reduceEqDiff, Nat.reduceAdd, Nat.reduceMul, Nat.reduceSub, Nat.reduceLeDiff, Nat.reduceBEq, hf]; rfl); all_goals (intro hcnd; first | (exact absurd hcnd (by decide)) | skip)) | ((first | refine guardC_f ?_ ?_ | refine guardC_t ?_ ?_) <;> (intro hcnd; simp (decide := true) only [go_sem, reduceIte, reduceCtorEq, Nat.reduceEqDiff, Nat.reduceAdd, Nat.reduceMul, Nat.reduceSub, Nat.reduceLeDiff, Nat.reduceBEq, hcnd, hf]))))
    simp [rightK, hf]
  · obtain ⟨h1, h2⟩ := few_le hf
    (repeat' (first | (refine dw_seq ?_) | (refine dw_block ?_) | ((first | (refine dw_reg (N := 14) rfl (by kernel_rfl) ?_) | (refine dw_skip ?_) | (refine dw_exit ?_) | (refine CallC.mk (few_D ps xs) (LeL.of_eq rfl) ?_) | (refine CallC.light (few_D ps xs) (LeL.of_eq rfl) ?_) | (refine CallC.mk (rCheck_D ps xs (by omega) (by omega)) (LeL.of_eq rfl) ?_) | (refine CallC.light (rCheck_D ps xs (by omega) (by omega)) (LeL.of_eq rfl) ?_) | (refine dw_ret ?_)); simp (decide := true) only [go_sem, reduceIte, reduceCtorEq, Nat.reduceEqDiff, Nat.reduceAdd, Nat.reduceMul, Nat.reduceSub, Nat.reduceLeDiff, Nat.reduceBEq, hf]) | (apply dw_cond; (simp (decide := true) only [go_sem, reduceIte, reduceCtorEq, Nat.reduceEqDiff, Nat.reduceAdd, Nat.reduceMul, Nat.reduceSub, Nat.reduceLeDiff, Nat.reduceBEq, hf]; rfl); all_goals (intro hcnd; first | (exact absurd hcnd (by decide)) | skip)) | ((first | refine guardC_f ?_ ?_ | refine guardC_t ?_ ?_) <;> (intro hcnd; simp (decide := true) only [go_sem, reduceIte, reduceCtorEq, Nat.reduceEqDiff, Nat.reduceAdd, Nat.reduceMul, Nat.reduceSub, Nat.reduceLeDiff, Nat.reduceBEq, hcnd, hf]))))
    simp [rightK, hf]

set_option maxRecDepth 10000 in
set_option maxHeartbeats 4000000 in
--F19
theorem sameI_D (xs ys : List Int) (hx : xs.length ≤ maxLen) : DCalls Try.prog 19 [dv (.sl 1 (ints xs)), dv (.sl 1 (ints ys))] (dv (lb (decide (xs = ys)))) := by
  refine dcalls (N := 26) (rs := [.tmp 4]) (by kernel_rfl) Try.func19 rfl rfl rfl (by simp) ?_
  (repeat' (first | (refine dw_seq ?_) | (refine dw_block ?_) | ((first | (refine dw_reg (N := 26) rfl (by kernel_rfl) ?_) | (apply dw_drw (id := 6) (N := 26) [(0, .light), (1, .light), (2, .light), (3, .light), (4, .light), (5, .light), (6, .light), (7, .light), (8, .light)]; kernel_rfl; rfl; kernel_rfl; (repeat (first | exact Picks.nil | (apply Picks.cons; rfl)))) | (refine dw_skip ?_) | (refine dw_exit ?_) | (refine dw_ret ?_)); simp (decide := true) only [go_sem, reduceIte, reduceCtorEq, Nat.reduceEqDiff, Nat.reduceAdd, Nat.reduceMul, Nat.reduceSub, Nat.reduceLeDiff, Nat.reduceBEq]) | (apply dw_cond; (simp (decide := true) only [go_sem, reduceIte, reduceCtorEq, Nat.reduceEqDiff, Nat.reduceAdd, Nat.reduceMul, Nat.reduceSub, Nat.reduceLeDiff, Nat.reduceBEq]; rfl); all_goals (intro hcnd; first | (exact absurd hcnd (by decide)) | skip)) | ((first | refine guardC_f ?_ ?_ | refine guardC_t ?_ ?_) <;> (intro hcnd; simp (decide := true) only [go_sem, reduceIte, reduceCtorEq, Nat.reduceEqDiff, Nat.reduceAdd, Nat.reduceMul, Nat.reduceSub, Nat.reduceLeDiff, Nat.reduceBEq, hcnd]))))
  · have : xs ≠ ys := fun e => by subst e; simp at hcnd
    simp [this]
  · have hl : xs.length = ys.length := by simp at hcnd; omega
    refine dw_rngI xs (fun k => kn 26 [(0, dv (.sl 1 (ints xs))), (1, dv (.sl 1 (ints ys))), (12, dv (li xs.length)), (13, dv (li k))] noMem) (fun k => xs.take k = ys.take k) hx (sub_kn rfl (by simp (decide := true) only [go_sem, reduceIte, reduceCtorEq, Nat.reduceEqDiff, Nat.reduceAdd, Nat.reduceMul, Nat.reduceSub, Nat.reduceLeDiff, Nat.reduceBEq]) (by simp [noMem])) rfl ?_ ?_
    · intro k x hx hk hm htk hlt hw hi
      have hyk : k < ys.length := by omega
      have hy : ys[k]? = some ys[k] := List.getElem?_eq_getElem hyk
      have hx' := ints_at hx
      have hy' := ints_at hy
      (repeat' (first | (refine dw_seq ?_) | (refine dw_block ?_) | ((first | (refine dw_reg (N := 26) rfl (by kernel_rfl) ?_) | (apply dw_drw (id := 6) (N := 26) [(0, .light), (1, .light), (2, .light), (3, .light), (4, .light), (5, .light), (6, .light), (7, .light), (8, .light)]; kernel_rfl; rfl; kernel_rfl; (repeat (first | exact Picks.nil | (apply Picks.cons; rfl)))) | (refine dw_skip ?_) | (refine dw_exit ?_) | (refine dw_ret ?_)); simp (decide := true) only [go_sem, reduceIte, reduceCtorEq, Nat.reduceEqDiff, Nat.reduceAdd, Nat.reduceMul, Nat.reduceSub, Nat.reduceLeDiff, Nat.reduceBEq, hlt, hw, hx', hy']) | (apply dw_cond; (simp (decide := true) only [go_sem, reduceIte, reduceCtorEq, Nat.reduceEqDiff, Nat.reduceAdd, Nat.reduceMul, Nat.reduceSub, Nat.reduceLeDiff, Nat.reduceBEq, hlt, hw, hx', hy']; rfl); all_goals (intro hcnd; first | (exact absurd hcnd (by decide)) | skip)) | ((first | refine guardC_f ?_ ?_ | refine guardC_t ?_ ?_) <;> (intro hcnd; simp (decide := true) only [go_sem, reduceIte, reduceCtorEq, Nat.reduceEqDiff, Nat.reduceAdd, Nat.reduceMul, Nat.reduceSub, Nat.reduceLeDiff, Nat.reduceBEq, hcnd, hlt, hw, hx', hy']))))
      · have hne : x ≠ ys[k] := by simpa using hcnd
        have : xs ≠ ys := fun e => by
          subst e; rw [hx] at hy; injection hy with hy; exact hne hy
        simp [this]
      · have he : x = ys[k] := by simpa using hcnd
        exact ⟨by rw [htk, hi, he, ← take_snoc hy], sub_kn rfl (by simp (decide := true) only [go_sem, reduceIte, reduceCtorEq, Nat.reduceEqDiff, Nat.reduceAdd, Nat.reduceMul, Nat.reduceSub, Nat.reduceLeDiff, Nat.reduceBEq]) (by simp [noMem])⟩
    · intro hlt hi
      rw [List.take_length, hl, List.take_length] at hi
      (repeat' (first | (refine dw_seq ?_) | (refine dw_block ?_) | ((first | (refine dw_reg (N := 26) rfl (by kernel_rfl) ?_) | (apply dw_drw (id := 6) (N := 26) [(0, .light), (1, .light), (2, .light), (3, .light), (4, .light), (5, .light), (6, .light), (7, .light), (8, .light)]; kernel_rfl; rfl; kernel_rfl; (repeat (first | exact Picks.nil | (apply Picks.cons; rfl)))) | (refine dw_skip ?_) | (refine dw_exit ?_) | (refine dw_ret ?_)); simp (decide := true) only [go_sem, reduceIte, reduceCtorEq, Nat.reduceEqDiff, Nat.reduceAdd, Nat.reduceMul, Nat.reduceSub, Nat.reduceLeDiff, Nat.reduceBEq, hlt]) | (apply dw_cond; (simp (decide := true) only [go_sem, reduceIte, reduceCtorEq, Nat.reduceEqDiff, Nat.reduceAdd, Nat.reduceMul, Nat.reduceSub, Nat.reduceLeDiff, Nat.reduceBEq, hlt]; rfl); all_goals (intro hcnd; first | (exact absurd hcnd (by decide)) | skip)) | ((first | refine guardC_f ?_ ?_ | refine guardC_t ?_ ?_) <;> (intro hcnd; simp (decide := true) only [go_sem, reduceIte, reduceCtorEq, Nat.reduceEqDiff, Nat.reduceAdd, Nat.reduceMul, Nat.reduceSub, Nat.reduceLeDiff, Nat.reduceBEq, hcnd, hlt]))))
      simp [hi]

set_option maxRecDepth 10000 in
set_option maxHeartbeats 4000000 in
--F23
theorem sameC_D (xs ys : List Cons) (hx : xs.length ≤ maxLen) : DCalls Try.prog 23 [dv (.sl 4 (xs.map Cons.enc)), dv (.sl 4 (ys.map Cons.enc))] (dv (lb (decide (xs = ys)))) := by
  refine dcalls (N := 26) (rs := [.tmp 4]) (by kernel_rfl) Try.func23 rfl rfl rfl (by simp) ?_
  (repeat' (first | (refine dw_seq ?_) | (refine dw_block ?_) | ((first | (refine dw_reg (N := 26) rfl (by kernel_rfl) ?_) | (apply dw_drw (id := 6) (N := 26) [(0, .light), (1, .light), (2, .light), (3, .light), (4, .light), (5, .light), (6, .light), (7, .light), (8, .light)]; kernel_rfl; rfl; kernel_rfl; (repeat (first | exact Picks.nil | (apply Picks.cons; rfl)))) | (refine dw_skip ?_) | (refine dw_exit ?_) | (refine dw_ret ?_)); simp (decide := true) only [go_sem, reduceIte, reduceCtorEq, Nat.reduceEqDiff, Nat.reduceAdd, Nat.reduceMul, Nat.reduceSub, Nat.reduceLeDiff, Nat.reduceBEq]) | (apply dw_cond; (simp (decide := true) only [go_sem, reduceIte, reduceCtorEq, Nat.reduceEqDiff, Nat.reduceAdd, Nat.reduceMul, Nat.reduceSub, Nat.reduceLeDiff, Nat.reduceBEq]; rfl); all_goals (intro hcnd; first | (exact absurd hcnd (by decide)) | skip)) | ((first | refine guardC_f ?_ ?_ | refine guardC_t ?_ ?_) <;> (intro hcnd; simp (decide := true) only [go_sem, reduceIte, reduceCtorEq, Nat.reduceEqDiff, Nat.reduceAdd, Nat.reduceMul, Nat.reduceSub, Nat.reduceLeDiff, Nat.reduceBEq, hcnd]))))
  · have : xs ≠ ys := fun e => by subst e; simp at hcnd
    simp [this]
  · have hl : xs.length = ys.length := by simp at hcnd; omega
    refine dw_rngI xs (fun k => kn 26 [(0, dv (.sl 4 (xs.map Cons.enc))), (1, dv (.sl 4 (ys.map Cons.enc))), (5, dv (li k))] noMem) (fun k => xs.take k = ys.take k) hx (sub_kn rfl (by simp (decide := true) only [go_sem, reduceIte, reduceCtorEq, Nat.reduceEqDiff, Nat.reduceAdd, Nat.reduceMul, Nat.reduceSub, Nat.reduceLeDiff, Nat.reduceBEq]) (by simp [noMem])) rfl ?_ ?_
    · intro k x hx hk hm htk hlt hw hi
      have hyk : k < ys.length := by omega
      have hy : ys[k]? = some ys[k] := List.getElem?_eq_getElem hyk
      obtain ⟨y, hye⟩ : ∃ y, y = ys[k] := ⟨_, rfl⟩
      rw [← hye] at hy
      have hex : (x.person == y.person && (x.rcd == y.rcd && (x.day == y.day && (x.kind == y.kind)))) = decide (x = y) := by rw [Bool.eq_iff_iff]; cases x; cases y; simp
      (repeat' (first | (refine dw_seq ?_) | (refine dw_block ?_) | ((first | (refine dw_reg (N := 26) rfl (by kernel_rfl) ?_) | (apply dw_drw (id := 6) (N := 26) [(0, .light), (1, .light), (2, .light), (3, .light), (4, .light), (5, .light), (6, .light), (7, .light), (8, .light)]; kernel_rfl; rfl; kernel_rfl; (repeat (first | exact Picks.nil | (apply Picks.cons; rfl)))) | (refine dw_skip ?_) | (refine dw_exit ?_) | (refine dw_ret ?_)); simp (decide := true) only [go_sem, reduceIte, reduceCtorEq, Nat.reduceEqDiff, Nat.reduceAdd, Nat.reduceMul, Nat.reduceSub, Nat.reduceLeDiff, Nat.reduceBEq, hlt, hw, hx, hy, Cons.enc, hex]) | (apply dw_cond; (simp (decide := true) only [go_sem, reduceIte, reduceCtorEq, Nat.reduceEqDiff, Nat.reduceAdd, Nat.reduceMul, Nat.reduceSub, Nat.reduceLeDiff, Nat.reduceBEq, hlt, hw, hx, hy, Cons.enc, hex]; rfl); all_goals (intro hcnd; first | (exact absurd hcnd (by decide)) | skip)) | ((first | refine guardC_f ?_ ?_ | refine guardC_t ?_ ?_) <;> (intro hcnd; simp (decide := true) only [go_sem, reduceIte, reduceCtorEq, Nat.reduceEqDiff, Nat.reduceAdd, Nat.reduceMul, Nat.reduceSub, Nat.reduceLeDiff, Nat.reduceBEq, hcnd, hlt, hw, hx, hy, Cons.enc, hex]))))
      · have hne : x ≠ y := by simpa using hcnd
        have : xs ≠ ys := fun e => by
          subst e; rw [hx] at hy; injection hy with hy; exact hne hy
        simp [this]
      · have he : x = y := by simpa using hcnd
        exact ⟨by rw [htk, hi, he, ← take_snoc hy], sub_kn rfl (by simp (decide := true) only [go_sem, reduceIte, reduceCtorEq, Nat.reduceEqDiff, Nat.reduceAdd, Nat.reduceMul, Nat.reduceSub, Nat.reduceLeDiff, Nat.reduceBEq]) (by simp [noMem])⟩
    · intro hlt hi
      rw [List.take_length, hl, List.take_length] at hi
      (repeat' (first | (refine dw_seq ?_) | (refine dw_block ?_) | ((first | (refine dw_reg (N := 26) rfl (by kernel_rfl) ?_) | (apply dw_drw (id := 6) (N := 26) [(0, .light), (1, .light), (2, .light), (3, .light), (4, .light), (5, .light), (6, .light), (7, .light), (8, .light)]; kernel_rfl; rfl; kernel_rfl; (repeat (first | exact Picks.nil | (apply Picks.cons; rfl)))) | (refine dw_skip ?_) | (refine dw_exit ?_) | (refine dw_ret ?_)); simp (decide := true) only [go_sem, reduceIte, reduceCtorEq, Nat.reduceEqDiff, Nat.reduceAdd, Nat.reduceMul, Nat.reduceSub, Nat.reduceLeDiff, Nat.reduceBEq, hlt]) | (apply dw_cond; (simp (decide := true) only [go_sem, reduceIte, reduceCtorEq, Nat.reduceEqDiff, Nat.reduceAdd, Nat.reduceMul, Nat.reduceSub, Nat.reduceLeDiff, Nat.reduceBEq, hlt]; rfl); all_goals (intro hcnd; first | (exact absurd hcnd (by decide)) | skip)) | ((first | refine guardC_f ?_ ?_ | refine guardC_t ?_ ?_) <;> (intro hcnd; simp (decide := true) only [go_sem, reduceIte, reduceCtorEq, Nat.reduceEqDiff, Nat.reduceAdd, Nat.reduceMul, Nat.reduceSub, Nat.reduceLeDiff, Nat.reduceBEq, hcnd, hlt]))))
      simp [hi]

set_option maxRecDepth 10000 in
set_option maxHeartbeats 4000000 in
--F26
theorem has_D (xs : List Int) (n : Int) (hx : xs.length ≤ maxLen) : DCalls Try.prog 26 [dv (.sl 1 (ints xs)), dv (li n)] (dv (lb (xs.any fun x => x == n))) := by
  refine dcalls (N := 18) (rs := [.tmp 4]) (by kernel_rfl) Try.func26 rfl rfl rfl (by simp) ?_
  (repeat (first | (refine dw_seq ?_) | (refine dw_block ?_) | ((first | (refine dw_reg (N := 18) rfl (by kernel_rfl) ?_) | (refine dw_skip ?_) | (refine dw_exit ?_)); simp (decide := true) only [go_sem, reduceIte, reduceCtorEq, Nat.reduceEqDiff, Nat.reduceAdd, Nat.reduceMul, Nat.reduceSub, Nat.reduceLeDiff, Nat.reduceBEq])))
  refine dw_rngI xs (fun k => kn 18 [(0, dv (.sl 1 (ints xs))), (1, dv (li n)), (7, dv (li xs.length)), (8, dv (li k))] noMem) (fun k => ∀ x ∈ xs.take k, (x == n) = false) hx (sub_kn rfl (by simp (decide := true) only [go_sem, reduceIte, reduceCtorEq, Nat.reduceEqDiff, Nat.reduceAdd, Nat.reduceMul, Nat.reduceSub, Nat.reduceLeDiff, Nat.reduceBEq]) (by simp [noMem])) (by simp) ?_ ?_
  · intro k x hx hk hm htk hlt hw hi
    have hx' := ints_at hx
    (repeat' (first | (refine dw_seq ?_) | (refine dw_block ?_) | ((first | (refine dw_reg (N := 18) rfl (by kernel_rfl) ?_) | (refine dw_skip ?_) | (refine dw_exit ?_) | (refine dw_ret ?_)); simp (decide := true) only [go_sem, reduceIte, reduceCtorEq, Nat.reduceEqDiff, Nat.reduceAdd, Nat.reduceMul, Nat.reduceSub, Nat.reduceLeDiff, Nat.reduceBEq, hlt, hw, hx']) | (apply dw_cond; (simp (decide := true) only [go_sem, reduceIte, reduceCtorEq, Nat.reduceEqDiff, Nat.reduceAdd, Nat.reduceMul, Nat.reduceSub, Nat.reduceLeDiff, Nat.reduceBEq, hlt, hw, hx']; rfl); all_goals (intro hcnd; first | (exact absurd hcnd (by decide)) | skip)) | ((first | refine guardC_f ?_ ?_ | refine guardC_t ?_ ?_) <;> (intro hcnd; simp (decide := true) only [go_sem, reduceIte, reduceCtorEq, Nat.reduceEqDiff, Nat.reduceAdd, Nat.reduceMul, Nat.reduceSub, Nat.reduceLeDiff, Nat.reduceBEq, hcnd, hlt, hw, hx']))))
    · rw [any_true hm hcnd]
    · exact ⟨forall_snoc htk hi hcnd, sub_kn rfl (by simp (decide := true) only [go_sem, reduceIte, reduceCtorEq, Nat.reduceEqDiff, Nat.reduceAdd, Nat.reduceMul, Nat.reduceSub, Nat.reduceLeDiff, Nat.reduceBEq]) (by simp [noMem])⟩
  · intro hlt hi
    rw [List.take_length] at hi
    (repeat' (first | (refine dw_seq ?_) | (refine dw_block ?_) | ((first | (refine dw_reg (N := 18) rfl (by kernel_rfl) ?_) | (refine dw_skip ?_) | (refine dw_exit ?_) | (refine dw_ret ?_)); simp (decide := true) only [go_sem, reduceIte, reduceCtorEq, Nat.reduceEqDiff, Nat.reduceAdd, Nat.reduceMul, Nat.reduceSub, Nat.reduceLeDiff, Nat.reduceBEq, hlt]) | (apply dw_cond; (simp (decide := true) only [go_sem, reduceIte, reduceCtorEq, Nat.reduceEqDiff, Nat.reduceAdd, Nat.reduceMul, Nat.reduceSub, Nat.reduceLeDiff, Nat.reduceBEq, hlt]; rfl); all_goals (intro hcnd; first | (exact absurd hcnd (by decide)) | skip)) | ((first | refine guardC_f ?_ ?_ | refine guardC_t ?_ ?_) <;> (intro hcnd; simp (decide := true) only [go_sem, reduceIte, reduceCtorEq, Nat.reduceEqDiff, Nat.reduceAdd, Nat.reduceMul, Nat.reduceSub, Nat.reduceLeDiff, Nat.reduceBEq, hcnd, hlt]))))
    have : (xs.any fun x => x == n) = false := by simpa using hi
    rw [this]
end Go.Proofs.Ytbbocdcdidemmaa

/- Consents: lists of them in memory of one's own: Clone, Insert (printed by gen_ins.py). -/
namespace Go.Proofs.Ytbbocdcdidemmaa
open Go.Dl
attribute [local irreducible] DW DCalls ECalls wk IW

--F32
set_option maxRecDepth 10000 in
set_option maxHeartbeats 2000000 in
theorem cloneC_E (xs : List (List Dl.C)) (hz : ∀ r ∈ xs, r.length = 4) (hl : xs.length ≤ 1000000) :
    ECalls Try.prog 32 [dv (.sl 4 xs)] noMem (fun r H' => ∃ j, r = .one (.ba 0 4 0 xs.length (xs.length + j)) ∧ H' = ml [(0, cr xs ++ anyRows j 4)]) := by
  refine ecalls (N := 8) (rs := [.tmp 2]) (by kernel_rfl) Try.func32 rfl rfl rfl (by simp) ?_
  cases xs with
  | nil =>
    refine dw_emp (sz := 4) 0 (by simp (decide := true) only [go_sem, reduceIte, reduceCtorEq, Nat.reduceEqDiff, Nat.reduceAdd, Nat.reduceMul, Nat.reduceSub, Nat.reduceLeDiff, Nat.reduceBEq]) ?_ (fun a cap hcap => ?_)
    · (repeat (first | (refine dw_seq ?_) | (refine dw_block ?_) | ((first | (refine dw_reg (N := 8) rfl (by kernel_rfl) ?_) | (refine dw_skip ?_) | (refine dw_exit ?_)); simp (decide := true) only [go_sem, reduceIte, reduceCtorEq, Nat.reduceEqDiff, Nat.reduceAdd, Nat.reduceMul, Nat.reduceSub, Nat.reduceLeDiff, Nat.reduceBEq])))
      apply dw_cond; (simp (decide := true) only [go_sem, reduceIte, reduceCtorEq, Nat.reduceEqDiff, Nat.reduceAdd, Nat.reduceMul, Nat.reduceSub, Nat.reduceLeDiff, Nat.reduceBEq]; rfl)
      · intro _
        (repeat (first | (refine dw_seq ?_) | (refine dw_block ?_) | ((first | (refine dw_reg (N := 8) rfl (by kernel_rfl) ?_) | (refine dw_skip ?_) | (refine dw_exit ?_)); simp (decide := true) only [go_sem, reduceIte, reduceCtorEq, Nat.reduceEqDiff, Nat.reduceAdd, Nat.reduceMul, Nat.reduceSub, Nat.reduceLeDiff, Nat.reduceBEq])))
        refine dw_weaken (DS.Sub.trans (sub_zero 2 0 4 (.inl (by simp (decide := true) only [go_sem, reduceIte, reduceCtorEq, Nat.reduceEqDiff, Nat.reduceAdd, Nat.reduceMul, Nat.reduceSub, Nat.reduceLeDiff, Nat.reduceBEq]))) (sub_ml (N := 8) (sls := [(2, .one (.ba 0 4 0 0 0))]) (bxs := [(0, [])]) rfl (by simp (decide := true) only [go_sem, reduceIte, reduceCtorEq, Nat.reduceEqDiff, Nat.reduceAdd, Nat.reduceMul, Nat.reduceSub, Nat.reduceLeDiff, Nat.reduceBEq]) (by simp (decide := true) only [go_sem, reduceIte, reduceCtorEq, Nat.reduceEqDiff, Nat.reduceAdd, Nat.reduceMul, Nat.reduceSub, Nat.reduceLeDiff, Nat.reduceBEq]))) ?_
        refine dw_ret ?_; simp (decide := true) only [go_sem, reduceIte, reduceCtorEq, Nat.reduceEqDiff, Nat.reduceAdd, Nat.reduceMul, Nat.reduceSub, Nat.reduceLeDiff, Nat.reduceBEq]
        exact ⟨0, rfl, rfl⟩
      · simp
    · (repeat (first | (refine dw_seq ?_) | (refine dw_block ?_) | ((first | (refine dw_reg (N := 8) rfl (by kernel_rfl) ?_) | (refine dw_skip ?_) | (refine dw_exit ?_)); simp (decide := true) only [go_sem, reduceIte, reduceCtorEq, Nat.reduceEqDiff, Nat.reduceAdd, Nat.reduceMul, Nat.reduceSub, Nat.reduceLeDiff, Nat.reduceBEq])))
      apply dw_cond; (simp (decide := true) only [go_sem, reduceIte, reduceCtorEq, Nat.reduceEqDiff, Nat.reduceAdd, Nat.reduceMul, Nat.reduceSub, Nat.reduceLeDiff, Nat.reduceBEq]; rfl)
      · simp
      intro _
      refine dw_skip ?_
      simp (decide := true) only [go_sem, reduceIte, reduceCtorEq, Nat.reduceEqDiff, Nat.reduceAdd, Nat.reduceMul, Nat.reduceSub, Nat.reduceLeDiff, Nat.reduceBEq]
      refine dw_weaken (s' := kn 8 [(0, dv (.sl 4 []))] noMem) (sub_kn rfl ⟨.inr (by simp (decide := true) only [go_sem, reduceIte, reduceCtorEq, Nat.reduceEqDiff, Nat.reduceAdd, Nat.reduceMul, Nat.reduceSub, Nat.reduceLeDiff, Nat.reduceBEq]; exact DLe.emp 4 hcap), trivial⟩ (by simp [noMem])) ?_
      refine dw_seq ?_
      refine dw_regM (N := 8) [.hand] rfl (by kernel_rfl) ?_
      simp (decide := true) only [go_sem, reduceIte, reduceCtorEq, Nat.reduceEqDiff, Nat.reduceAdd, Nat.reduceMul, Nat.reduceSub, Nat.reduceLeDiff, Nat.reduceBEq]
      refine StepC.mk (Step.buildNone (sz := 4) rfl rfl (by simp (decide := true) only [go_sem, reduceIte, reduceCtorEq, Nat.reduceEqDiff, Nat.reduceAdd, Nat.reduceMul, Nat.reduceSub, Nat.reduceLeDiff, Nat.reduceBEq]) ?_)
      simp (decide := true) only [go_sem, reduceIte, reduceCtorEq, Nat.reduceEqDiff, Nat.reduceAdd, Nat.reduceMul, Nat.reduceSub, Nat.reduceLeDiff, Nat.reduceBEq]
      refine StepC.mk (Step.appendList (n := 5) (sz := 4) (by_ := 32) (rows := []) (j := 0) (ys := []) rfl rfl (by simp (decide := true) only [go_sem, reduceIte, reduceCtorEq, Nat.reduceEqDiff, Nat.reduceAdd, Nat.reduceMul, Nat.reduceSub, Nat.reduceLeDiff, Nat.reduceBEq]) (by simp (decide := true) only [go_sem, reduceIte, reduceCtorEq, Nat.reduceEqDiff, Nat.reduceAdd, Nat.reduceMul, Nat.reduceSub, Nat.reduceLeDiff, Nat.reduceBEq]) (by simp (decide := true) only [go_sem, reduceIte, reduceCtorEq, Nat.reduceEqDiff, Nat.reduceAdd, Nat.reduceMul, Nat.reduceSub, Nat.reduceLeDiff, Nat.reduceBEq]) (by simp [RowsSz]) (srcSl (ys := []) (by simp (decide := true) only [go_sem, reduceIte, reduceCtorEq, Nat.reduceEqDiff, Nat.reduceAdd, Nat.reduceMul, Nat.reduceSub, Nat.reduceLeDiff, Nat.reduceBEq])) (by simp) ?_)
      intro j'
      simp (decide := true) only [go_sem, reduceIte, reduceCtorEq, Nat.reduceEqDiff, Nat.reduceAdd, Nat.reduceMul, Nat.reduceSub, Nat.reduceLeDiff, Nat.reduceBEq]
      (repeat' (first | (refine dw_seq ?_) | (refine dw_block ?_) | ((first | (refine dw_reg (N := 8) rfl (by kernel_rfl) ?_) | (refine dw_skip ?_) | (refine dw_exit ?_)); simp (decide := true) only [go_sem, reduceIte, reduceCtorEq, Nat.reduceEqDiff, Nat.reduceAdd, Nat.reduceMul, Nat.reduceSub, Nat.reduceLeDiff, Nat.reduceBEq]) | (apply dw_cond; (simp (decide := true) only [go_sem, reduceIte, reduceCtorEq, Nat.reduceEqDiff, Nat.reduceAdd, Nat.reduceMul, Nat.reduceSub, Nat.reduceLeDiff, Nat.reduceBEq]; rfl); all_goals (intro hcnd; first | (exact absurd hcnd (by decide)) | skip)) | ((first | refine guardC_f ?_ ?_ | refine guardC_t ?_ ?_) <;> (intro hcnd; simp (decide := true) only [go_sem, reduceIte, reduceCtorEq, Nat.reduceEqDiff, Nat.reduceAdd, Nat.reduceMul, Nat.reduceSub, Nat.reduceLeDiff, Nat.reduceBEq, hcnd]))))
      refine dw_weaken (DS.Sub.trans (sub_mv 7 0 (by omega)) (sub_ml (N := 8) (sls := [(2, .one (.ba 0 4 0 0 (0 + j')))]) (bxs := [(0, cr [] ++ anyRows j' 4)]) rfl (by simp (decide := true) only [go_sem, reduceIte, reduceCtorEq, Nat.reduceEqDiff, Nat.reduceAdd, Nat.reduceMul, Nat.reduceSub, Nat.reduceLeDiff, Nat.reduceBEq]) (by simp (decide := true) only [go_sem, reduceIte, reduceCtorEq, Nat.reduceEqDiff, Nat.reduceAdd, Nat.reduceMul, Nat.reduceSub, Nat.reduceLeDiff, Nat.reduceBEq, cr_nil]))) ?_
      refine dw_ret ?_; simp (decide := true) only [go_sem, reduceIte, reduceCtorEq, Nat.reduceEqDiff, Nat.reduceAdd, Nat.reduceMul, Nat.reduceSub, Nat.reduceLeDiff, Nat.reduceBEq]
      exact ⟨j', rfl, rfl⟩
  | cons x xs =>
    (repeat (first | (refine dw_seq ?_) | (refine dw_block ?_) | ((first | (refine dw_reg (N := 8) rfl (by kernel_rfl) ?_) | (refine dw_skip ?_) | (refine dw_exit ?_)); simp (decide := true) only [go_sem, reduceIte, reduceCtorEq, Nat.reduceEqDiff, Nat.reduceAdd, Nat.reduceMul, Nat.reduceSub, Nat.reduceLeDiff, Nat.reduceBEq])))
    apply dw_cond; (simp (decide := true) only [go_sem, reduceIte, reduceCtorEq, Nat.reduceEqDiff, Nat.reduceAdd, Nat.reduceMul, Nat.reduceSub, Nat.reduceLeDiff, Nat.reduceBEq]; rfl)
    · simp
    intro _
    refine dw_skip ?_
    simp (decide := true) only [go_sem, reduceIte, reduceCtorEq, Nat.reduceEqDiff, Nat.reduceAdd, Nat.reduceMul, Nat.reduceSub, Nat.reduceLeDiff, Nat.reduceBEq]
    refine dw_seq ?_
    refine dw_regM (N := 8) [.hand] rfl (by kernel_rfl) ?_
    simp (decide := true) only [go_sem, reduceIte, reduceCtorEq, Nat.reduceEqDiff, Nat.reduceAdd, Nat.reduceMul, Nat.reduceSub, Nat.reduceLeDiff, Nat.reduceBEq]
    refine StepC.mk (Step.buildNone (sz := 4) rfl rfl (by simp (decide := true) only [go_sem, reduceIte, reduceCtorEq, Nat.reduceEqDiff, Nat.reduceAdd, Nat.reduceMul, Nat.reduceSub, Nat.reduceLeDiff, Nat.reduceBEq]) ?_)
    simp (decide := true) only [go_sem, reduceIte, reduceCtorEq, Nat.reduceEqDiff, Nat.reduceAdd, Nat.reduceMul, Nat.reduceSub, Nat.reduceLeDiff, Nat.reduceBEq]
    refine StepC.mk (Step.appendList (n := 5) (sz := 4) (by_ := 32) (rows := []) (j := 0) (ys := cr (x :: xs)) rfl rfl (by simp (decide := true) only [go_sem, reduceIte, reduceCtorEq, Nat.reduceEqDiff, Nat.reduceAdd, Nat.reduceMul, Nat.reduceSub, Nat.reduceLeDiff, Nat.reduceBEq]) (by simp (decide := true) only [go_sem, reduceIte, reduceCtorEq, Nat.reduceEqDiff, Nat.reduceAdd, Nat.reduceMul, Nat.reduceSub, Nat.reduceLeDiff, Nat.reduceBEq]) (by simp (decide := true) only [go_sem, reduceIte, reduceCtorEq, Nat.reduceEqDiff, Nat.reduceAdd, Nat.reduceMul, Nat.reduceSub, Nat.reduceLeDiff, Nat.reduceBEq]) (by simp [RowsSz]) (srcSl (by simp (decide := true) only [go_sem, reduceIte, reduceCtorEq, Nat.reduceEqDiff, Nat.reduceAdd, Nat.reduceMul, Nat.reduceSub, Nat.reduceLeDiff, Nat.reduceBEq])) (by simp only [cr_len, List.length_nil]; omega) ?_)
    intro j'
    simp (decide := true) only [go_sem, reduceIte, reduceCtorEq, Nat.reduceEqDiff, Nat.reduceAdd, Nat.reduceMul, Nat.reduceSub, Nat.reduceLeDiff, Nat.reduceBEq]
    (repeat' (first | (refine dw_seq ?_) | (refine dw_block ?_) | ((first | (refine dw_reg (N := 8) rfl (by kernel_rfl) ?_) | (refine dw_skip ?_) | (refine dw_exit ?_)); simp (decide := true) only [go_sem, reduceIte, reduceCtorEq, Nat.reduceEqDiff, Nat.reduceAdd, Nat.reduceMul, Nat.reduceSub, Nat.reduceLeDiff, Nat.reduceBEq]) | (apply dw_cond; (simp (decide := true) only [go_sem, reduceIte, reduceCtorEq, Nat.reduceEqDiff, Nat.reduceAdd, Nat.reduceMul, Nat.reduceSub, Nat.reduceLeDiff, Nat.reduceBEq]; rfl); all_goals (intro hcnd; first | (exact absurd hcnd (by decide)) | skip)) | ((first | refine guardC_f ?_ ?_ | refine guardC_t ?_ ?_) <;> (intro hcnd; simp (decide := true) only [go_sem, reduceIte, reduceCtorEq, Nat.reduceEqDiff, Nat.reduceAdd, Nat.reduceMul, Nat.reduceSub, Nat.reduceLeDiff, Nat.reduceBEq, hcnd]))))
    refine dw_weaken (DS.Sub.trans (sub_mv 7 0 (by omega)) (sub_ml (N := 8) (sls := [(2, .one (.ba 0 4 0 (x :: xs).length ((x :: xs).length + j')))]) (bxs := [(0, cr (x :: xs) ++ anyRows j' 4)]) rfl (by simp (decide := true) only [go_sem, reduceIte, reduceCtorEq, Nat.reduceEqDiff, Nat.reduceAdd, Nat.reduceMul, Nat.reduceSub, Nat.reduceLeDiff, Nat.reduceBEq, cr_len]) (by simp (decide := true) only [go_sem, reduceIte, reduceCtorEq, Nat.reduceEqDiff, Nat.reduceAdd, Nat.reduceMul, Nat.reduceSub, Nat.reduceLeDiff, Nat.reduceBEq]))) ?_
    refine dw_ret ?_; simp (decide := true) only [go_sem, reduceIte, reduceCtorEq, Nat.reduceEqDiff, Nat.reduceAdd, Nat.reduceMul, Nat.reduceSub, Nat.reduceLeDiff, Nat.reduceBEq]
    exact ⟨j', rfl, rfl⟩

--F31
set_option maxRecDepth 10000 in
set_option maxHeartbeats 8000000 in
theorem insC_E (a : Nat) (xs : List (List Dl.C)) (j : Nat) (v : List Dl.C) (hz : ∀ r ∈ xs, r.length = 4) (hvl : v.length = 4) (i : Nat) (hi : i ≤ xs.length) (hl : xs.length ≤ 100000) :
    ECalls Try.prog 31 [.one (.ba 1000 4 0 xs.length (xs.length + j)), dv (li i), .one (.ba (a + NB) 4 0 1 1)] (listMem xs j 4 (a + NB) v)
      (fun r H' => ∃ j', r = .one (.ba 1000 4 0 (xs.length + 1) (xs.length + 1 + j')) ∧ H' = ml [(1000, cr (xs.take i ++ v :: xs.drop i) ++ anyRows j' 4)]) := by
  have hNB := NB_big
  have hmax : (1000000 : Nat) < maxLen := by simp [maxLen]
  have hqn : a + NB ≠ 1000 := by omega
  have le1 : (0 : Nat) ≤ i := Nat.zero_le _
  have hlj : xs.length ≤ xs.length + j := by omega
  have hib : i ≤ xs.length + j := by omega
  have hcl := cr_len xs
  have hzr := cr_sz hz
  have hz2 : RowsSz 4 (cr xs ++ anyRows j 4) := fun r hr => (List.mem_append.1 hr).elim (hzr r) (anyRows_sz j 4 r)
  have hml := listMem_l xs j 4 (a + NB) v
  have hmq := listMem_q xs j 4 a v
  have hvT : (v.map T.c).length = 4 := by simpa using hvl
  refine ecalls (N := 95) (rs := [.tmp 6]) (by kernel_rfl) Try.func31 rfl rfl rfl (by simp) ?_
  rcases Nat.lt_or_ge i xs.length with hlt | hge
  · have he : ((i : Int) == (xs.length : Int)) = false := by simp; omega
    have hlt' : i < (cr xs).length := by omega
    have hw1 : IntKind.i64.wrap ((xs.length : Int) + 1) = ((xs.length + 1 : Nat) : Int) := by rw [wrap_i64 (by omega) (by omega)]; rfl
    have hw2 : IntKind.i64.wrap (((xs.length + 1 : Nat) : Int) - (i : Int)) = ((xs.length + 1 - i : Nat) : Int) := by rw [wrap_i64 (by omega) (by omega)]; omega
    have hw3 : IntKind.i64.wrap ((i : Int) + 1) = ((i + 1 : Nat) : Int) := by rw [wrap_i64 (by omega) (by omega)]; rfl
    (repeat (first | (refine dw_seq ?_) | (refine dw_block ?_) | ((first | (refine dw_reg (N := 95) rfl (by kernel_rfl) ?_) | (apply dw_drw (id := 11) (N := 95) [(0, .light), (1, .light), (2, .light), (3, .light), (4, .light), (5, .light), (6, .light), (7, .light), (8, .step)]; kernel_rfl; rfl; kernel_rfl; (repeat (first | exact Picks.nil | (apply Picks.cons; rfl)))) | (apply dw_drw (id := 15) (N := 95) [(0, .light), (1, .light), (2, .light), (3, .light), (4, .light), (5, .light), (6, .light), (7, .light), (8, .step)]; kernel_rfl; rfl; kernel_rfl; (repeat (first | exact Picks.nil | (apply Picks.cons; rfl)))) | (refine dw_skip ?_) | (refine dw_exit ?_)); simp (decide := true) only [go_sem, reduceIte, reduceCtorEq, Nat.reduceEqDiff, Nat.reduceAdd, Nat.reduceMul, Nat.reduceSub, Nat.reduceLeDiff, Nat.reduceBEq, hi, hib, hlj, he])))
    apply dw_cond; (simp (decide := true) only [go_sem, reduceIte, reduceCtorEq, Nat.reduceEqDiff, Nat.reduceAdd, Nat.reduceMul, Nat.reduceSub, Nat.reduceLeDiff, Nat.reduceBEq]; rfl)
    · simp
    intro _
    (repeat (first | (refine dw_seq ?_) | (refine dw_block ?_) | ((first | (refine dw_reg (N := 95) rfl (by kernel_rfl) ?_) | (apply dw_drw (id := 11) (N := 95) [(0, .light), (1, .light), (2, .light), (3, .light), (4, .light), (5, .light), (6, .light), (7, .light), (8, .step)]; kernel_rfl; rfl; kernel_rfl; (repeat (first | exact Picks.nil | (apply Picks.cons; rfl)))) | (apply dw_drw (id := 15) (N := 95) [(0, .light), (1, .light), (2, .light), (3, .light), (4, .light), (5, .light), (6, .light), (7, .light), (8, .step)]; kernel_rfl; rfl; kernel_rfl; (repeat (first | exact Picks.nil | (apply Picks.cons; rfl)))) | (refine dw_skip ?_) | (refine dw_exit ?_)); simp (decide := true) only [go_sem, reduceIte, reduceCtorEq, Nat.reduceEqDiff, Nat.reduceAdd, Nat.reduceMul, Nat.reduceSub, Nat.reduceLeDiff, Nat.reduceBEq, hi, hib, hlj, he])))
    apply dw_cond; (simp (decide := true) only [go_sem, reduceIte, reduceCtorEq, Nat.reduceEqDiff, Nat.reduceAdd, Nat.reduceMul, Nat.reduceSub, Nat.reduceLeDiff, Nat.reduceBEq]; rfl)
    · simp
    intro _
    rcases Nat.eq_zero_or_pos j with hj0 | hj0
    · have hg : decide (((xs.length + j : Nat) : Int) < ((xs.length + 1 : Nat) : Int)) = true := by simp; omega
      (repeat (first | (refine dw_seq ?_) | (refine dw_block ?_) | ((first | (refine dw_reg (N := 95) rfl (by kernel_rfl) ?_) | (apply dw_drw (id := 11) (N := 95) [(0, .light), (1, .light), (2, .light), (3, .light), (4, .light), (5, .light), (6, .light), (7, .light), (8, .step)]; kernel_rfl; rfl; kernel_rfl; (repeat (first | exact Picks.nil | (apply Picks.cons; rfl)))) | (apply dw_drw (id := 15) (N := 95) [(0, .light), (1, .light), (2, .light), (3, .light), (4, .light), (5, .light), (6, .light), (7, .light), (8, .step)]; kernel_rfl; rfl; kernel_rfl; (repeat (first | exact Picks.nil | (apply Picks.cons; rfl)))) | (refine dw_skip ?_) | (refine dw_exit ?_)); simp (decide := true) only [go_sem, reduceIte, reduceCtorEq, Nat.reduceEqDiff, Nat.reduceAdd, Nat.reduceMul, Nat.reduceSub, Nat.reduceLeDiff, Nat.reduceBEq, hi, hib, hlj, he, hw1, hg])))
      apply dw_cond; (simp (decide := true) only [go_sem, reduceIte, reduceCtorEq, Nat.reduceEqDiff, Nat.reduceAdd, Nat.reduceMul, Nat.reduceSub, Nat.reduceLeDiff, Nat.reduceBEq]; rfl)
      · intro _
        have hik : i + (xs.length + 1 - i) = xs.length + 1 := by omega
        have h0i := Nat.zero_le i
        (repeat (first | (refine dw_seq ?_) | (refine dw_block ?_) | ((first | (refine dw_reg (N := 95) rfl (by kernel_rfl) ?_) | (apply dw_drw (id := 11) (N := 95) [(0, .light), (1, .light), (2, .light), (3, .light), (4, .light), (5, .light), (6, .light), (7, .light), (8, .step)]; kernel_rfl; rfl; kernel_rfl; (repeat (first | exact Picks.nil | (apply Picks.cons; rfl)))) | (apply dw_drw (id := 15) (N := 95) [(0, .light), (1, .light), (2, .light), (3, .light), (4, .light), (5, .light), (6, .light), (7, .light), (8, .step)]; kernel_rfl; rfl; kernel_rfl; (repeat (first | exact Picks.nil | (apply Picks.cons; rfl)))) | (refine dw_skip ?_) | (refine dw_exit ?_)); simp (decide := true) only [go_sem, reduceIte, reduceCtorEq, Nat.reduceEqDiff, Nat.reduceAdd, Nat.reduceMul, Nat.reduceSub, Nat.reduceLeDiff, Nat.reduceBEq, hi, hib, hlj, he, hw1, hw2, h0i, Nat.sub_zero])))
        refine StepC.mk (Step.appendMkList (kd := .i64) (n := 1000) (rows := cr xs ++ anyRows j 4) (i := 0) (len := i) (cap := xs.length + j) (k := xs.length + 1 - i) (sz := 4) (by_ := 32) rfl rfl (by simp (decide := true) only [go_sem, reduceIte, reduceCtorEq, Nat.reduceEqDiff, Nat.reduceAdd, Nat.reduceMul, Nat.reduceSub, Nat.reduceLeDiff, Nat.reduceBEq]) (by simp (decide := true) only [go_sem, reduceIte, reduceCtorEq, Nat.reduceEqDiff, Nat.reduceAdd, Nat.reduceMul, Nat.reduceSub, Nat.reduceLeDiff, Nat.reduceBEq]) (by simp (decide := true) only [go_sem, reduceIte, reduceCtorEq, Nat.reduceEqDiff, Nat.reduceAdd, Nat.reduceMul, Nat.reduceSub, Nat.reduceLeDiff, Nat.reduceBEq]) (by simp (decide := true) only [go_sem, reduceIte, reduceCtorEq, Nat.reduceEqDiff, Nat.reduceAdd, Nat.reduceMul, Nat.reduceSub, Nat.reduceLeDiff, Nat.reduceBEq]) (by simp (decide := true) only [go_sem, reduceIte, reduceCtorEq, Nat.reduceEqDiff, Nat.reduceAdd, Nat.reduceMul, Nat.reduceSub, Nat.reduceLeDiff, Nat.reduceBEq, hml]) (by simp [cr_len, anyRows_len]) hz2 (by omega) (by omega) (by omega) (by omega) ?_)
        intro j'
        have hik2 : i ≤ xs.length + 1 := by omega
        have hlj2 : xs.length + 1 ≤ xs.length + 1 + j' := by omega
        have ht0 : ((cr xs ++ anyRows j 4).drop 0).take i = cr (xs.take i) := by rw [List.drop_zero, List.take_append_of_le_length (by omega), cr_take]
        simp only [ht0, hik]
        simp (decide := true) only [go_sem, reduceIte, reduceCtorEq, Nat.reduceEqDiff, Nat.reduceAdd, Nat.reduceMul, Nat.reduceSub, Nat.reduceLeDiff, Nat.reduceBEq]
        (repeat (first | (refine dw_seq ?_) | (refine dw_block ?_) | ((first | (refine dw_reg (N := 95) rfl (by kernel_rfl) ?_) | (apply dw_drw (id := 11) (N := 95) [(0, .light), (1, .light), (2, .light), (3, .light), (4, .light), (5, .light), (6, .light), (7, .light), (8, .step)]; kernel_rfl; rfl; kernel_rfl; (repeat (first | exact Picks.nil | (apply Picks.cons; rfl)))) | (apply dw_drw (id := 15) (N := 95) [(0, .light), (1, .light), (2, .light), (3, .light), (4, .light), (5, .light), (6, .light), (7, .light), (8, .step)]; kernel_rfl; rfl; kernel_rfl; (repeat (first | exact Picks.nil | (apply Picks.cons; rfl)))) | (refine dw_skip ?_) | (refine dw_exit ?_)); simp (decide := true) only [go_sem, reduceIte, reduceCtorEq, Nat.reduceEqDiff, Nat.reduceAdd, Nat.reduceMul, Nat.reduceSub, Nat.reduceLeDiff, Nat.reduceBEq, hik2, hlj2])))
        have hzt0 : RowsSz 4 (cr (xs.take i)) := cr_sz fun r hr => hz r (List.mem_of_mem_take hr)
        have hzt : RowsSz 4 (cr (xs.take i) ++ anyRows (xs.length + 1 - i + j') 4) := fun r hr => (List.mem_append.1 hr).elim (hzt0 r) (anyRows_sz _ 4 r)
        have hzt2 : RowsSz 4 (cr (xs.take i) ++ v.map T.c :: anyRows (xs.length - i + j') 4) := fun r hr => by
          simp only [List.mem_append, List.mem_cons] at hr
          rcases hr with h | rfl | h
          · exact hzt0 r h
          · exact hvT
          · exact anyRows_sz _ 4 r h
        have hti : (cr (xs.take i)).length = i := by simp [cr_len]; omega
        have g1 := ins_grow1 (cr xs) (v.map T.c) i j' 4 hlt'
        have g2 := ins_grow2 (cr xs) (v.map T.c) i j' 4 hlt'
        rw [cr_take, hcl] at g1 g2
        refine StepC.mk (Step.copyTo (n := 40) (sz := 4) (i := i) (len := xs.length + 1 - i) (cap := xs.length + 1 + j' - i) (ys := [v.map T.c]) (rows := cr (xs.take i) ++ anyRows (xs.length + 1 - i + j') 4) (rows' := cr (xs.take i) ++ v.map T.c :: anyRows (xs.length - i + j') 4) (c := 1)
          rfl (by simp (decide := true) only [go_sem, reduceIte, reduceCtorEq, Nat.reduceEqDiff, Nat.reduceAdd, Nat.reduceMul, Nat.reduceSub, Nat.reduceLeDiff, Nat.reduceBEq]) (by simp (decide := true) only [go_sem, reduceIte, reduceCtorEq, Nat.reduceEqDiff, Nat.reduceAdd, Nat.reduceMul, Nat.reduceSub, Nat.reduceLeDiff, Nat.reduceBEq]) (by simp (decide := true) only [go_sem, reduceIte, reduceCtorEq, Nat.reduceEqDiff, Nat.reduceAdd, Nat.reduceMul, Nat.reduceSub, Nat.reduceLeDiff, Nat.reduceBEq]) (by simp only [List.length_append, anyRows_len, hti]; omega) hzt (srcOne (n := a + NB) (by simp (decide := true) only [go_sem, reduceIte, reduceCtorEq, Nat.reduceEqDiff, Nat.reduceAdd, Nat.reduceMul, Nat.reduceSub, Nat.reduceLeDiff, Nat.reduceBEq]) (by simp (decide := true) only [go_sem, reduceIte, reduceCtorEq, Nat.reduceEqDiff, Nat.reduceAdd, Nat.reduceMul, Nat.reduceSub, Nat.reduceLeDiff, Nat.reduceBEq, hmq]) hvT) (by simp <;> omega) g1 ?_)
        have hi1 : i + 1 ≤ xs.length + 1 := by omega
        simp (decide := true) only [go_sem, reduceIte, reduceCtorEq, Nat.reduceEqDiff, Nat.reduceAdd, Nat.reduceMul, Nat.reduceSub, Nat.reduceLeDiff, Nat.reduceBEq]
        (repeat (first | (refine dw_seq ?_) | (refine dw_block ?_) | ((first | (refine dw_reg (N := 95) rfl (by kernel_rfl) ?_) | (apply dw_drw (id := 11) (N := 95) [(0, .light), (1, .light), (2, .light), (3, .light), (4, .light), (5, .light), (6, .light), (7, .light), (8, .step)]; kernel_rfl; rfl; kernel_rfl; (repeat (first | exact Picks.nil | (apply Picks.cons; rfl)))) | (apply dw_drw (id := 15) (N := 95) [(0, .light), (1, .light), (2, .light), (3, .light), (4, .light), (5, .light), (6, .light), (7, .light), (8, .step)]; kernel_rfl; rfl; kernel_rfl; (repeat (first | exact Picks.nil | (apply Picks.cons; rfl)))) | (refine dw_skip ?_) | (refine dw_exit ?_)); simp (decide := true) only [go_sem, reduceIte, reduceCtorEq, Nat.reduceEqDiff, Nat.reduceAdd, Nat.reduceMul, Nat.reduceSub, Nat.reduceLeDiff, Nat.reduceBEq, hw3, hi1, hlj2, hi, hlj])))
        refine StepC.mk (Step.copyTo (n := 40) (sz := 4) (i := i + 1) (len := xs.length + 1 - (i + 1)) (cap := xs.length + 1 + j' - (i + 1)) (ys := (cr xs).drop i) (rows := cr (xs.take i) ++ v.map T.c :: anyRows (xs.length - i + j') 4) (rows' := cr (xs.take i) ++ (v.map T.c :: ((cr xs).drop i ++ anyRows j' 4))) (c := xs.length - i)
          rfl (by simp (decide := true) only [go_sem, reduceIte, reduceCtorEq, Nat.reduceEqDiff, Nat.reduceAdd, Nat.reduceMul, Nat.reduceSub, Nat.reduceLeDiff, Nat.reduceBEq]) (by simp (decide := true) only [go_sem, reduceIte, reduceCtorEq, Nat.reduceEqDiff, Nat.reduceAdd, Nat.reduceMul, Nat.reduceSub, Nat.reduceLeDiff, Nat.reduceBEq]) (by simp (decide := true) only [go_sem, reduceIte, reduceCtorEq, Nat.reduceEqDiff, Nat.reduceAdd, Nat.reduceMul, Nat.reduceSub, Nat.reduceLeDiff, Nat.reduceBEq]) (by simp only [List.length_append, List.length_cons, anyRows_len, hti]; omega) hzt2
          (srcBa (n := 1000) (i := i) (len := xs.length - i) (cap := xs.length + j - i) (rows := cr xs ++ anyRows j 4) (by simp (decide := true) only [go_sem, reduceIte, reduceCtorEq, Nat.reduceEqDiff, Nat.reduceAdd, Nat.reduceMul, Nat.reduceSub, Nat.reduceLeDiff, Nat.reduceBEq]) (by simp (decide := true) only [go_sem, reduceIte, reduceCtorEq, Nat.reduceEqDiff, Nat.reduceAdd, Nat.reduceMul, Nat.reduceSub, Nat.reduceLeDiff, Nat.reduceBEq, hml]) (by simp only [List.length_append, anyRows_len, hcl]; omega) hz2 (by rw [List.drop_append_of_le_length (by omega), List.take_append_of_le_length (by simp [cr_len]), List.take_of_length_le (by simp [cr_len])])) (by simp [cr_len] <;> omega) g2 ?_)
        simp (decide := true) only [go_sem, reduceIte, reduceCtorEq, Nat.reduceEqDiff, Nat.reduceAdd, Nat.reduceMul, Nat.reduceSub, Nat.reduceLeDiff, Nat.reduceBEq]
        (repeat (first | (refine dw_seq ?_) | (refine dw_block ?_) | ((first | (refine dw_reg (N := 95) rfl (by kernel_rfl) ?_) | (apply dw_drw (id := 11) (N := 95) [(0, .light), (1, .light), (2, .light), (3, .light), (4, .light), (5, .light), (6, .light), (7, .light), (8, .step)]; kernel_rfl; rfl; kernel_rfl; (repeat (first | exact Picks.nil | (apply Picks.cons; rfl)))) | (apply dw_drw (id := 15) (N := 95) [(0, .light), (1, .light), (2, .light), (3, .light), (4, .light), (5, .light), (6, .light), (7, .light), (8, .step)]; kernel_rfl; rfl; kernel_rfl; (repeat (first | exact Picks.nil | (apply Picks.cons; rfl)))) | (refine dw_skip ?_) | (refine dw_exit ?_)); simp (decide := true) only [go_sem, reduceIte, reduceCtorEq, Nat.reduceEqDiff, Nat.reduceAdd, Nat.reduceMul, Nat.reduceSub, Nat.reduceLeDiff, Nat.reduceBEq])))
        refine dw_weaken (DS.Sub.trans (sub_mv 40 1000 (by decide)) (sub_ml (N := 95) (sls := [(6, .one (.ba 1000 4 0 (xs.length + 1) (xs.length + 1 + j')))]) (bxs := [(1000, cr (xs.take i ++ v :: xs.drop i) ++ anyRows j' 4)]) rfl (by simp (decide := true) only [go_sem, reduceIte, reduceCtorEq, Nat.reduceEqDiff, Nat.reduceAdd, Nat.reduceMul, Nat.reduceSub, Nat.reduceLeDiff, Nat.reduceBEq]) (by simp (decide := true) only [go_sem, reduceIte, reduceCtorEq, Nat.reduceEqDiff, Nat.reduceAdd, Nat.reduceMul, Nat.reduceSub, Nat.reduceLeDiff, Nat.reduceBEq, cr_append, cr_cons, cr_drop, List.append_assoc]))) ?_
        refine dw_ret ?_; simp (decide := true) only [go_sem, reduceIte, reduceCtorEq, Nat.reduceEqDiff, Nat.reduceAdd, Nat.reduceMul, Nat.reduceSub, Nat.reduceLeDiff, Nat.reduceBEq]
        exact ⟨j', rfl, rfl⟩
      · simp
    · have hg : decide (((xs.length + j : Nat) : Int) < ((xs.length + 1 : Nat) : Int)) = false := by simp; omega
      (repeat (first | (refine dw_seq ?_) | (refine dw_block ?_) | ((first | (refine dw_reg (N := 95) rfl (by kernel_rfl) ?_) | (apply dw_drw (id := 11) (N := 95) [(0, .light), (1, .light), (2, .light), (3, .light), (4, .light), (5, .light), (6, .light), (7, .light), (8, .step)]; kernel_rfl; rfl; kernel_rfl; (repeat (first | exact Picks.nil | (apply Picks.cons; rfl)))) | (apply dw_drw (id := 15) (N := 95) [(0, .light), (1, .light), (2, .light), (3, .light), (4, .light), (5, .light), (6, .light), (7, .light), (8, .step)]; kernel_rfl; rfl; kernel_rfl; (repeat (first | exact Picks.nil | (apply Picks.cons; rfl)))) | (refine dw_skip ?_) | (refine dw_exit ?_)); simp (decide := true) only [go_sem, reduceIte, reduceCtorEq, Nat.reduceEqDiff, Nat.reduceAdd, Nat.reduceMul, Nat.reduceSub, Nat.reduceLeDiff, Nat.reduceBEq, hi, hib, hlj, he, hw1, hg])))
      apply dw_cond; (simp (decide := true) only [go_sem, reduceIte, reduceCtorEq, Nat.reduceEqDiff, Nat.reduceAdd, Nat.reduceMul, Nat.reduceSub, Nat.reduceLeDiff, Nat.reduceBEq]; rfl)
      · simp
      intro _
      have hj1 : xs.length + 1 ≤ xs.length + j := by omega
      have h0l := Nat.zero_le (xs.length + 1)
      have hi1 : i + 1 ≤ xs.length + 1 := by omega
      (repeat (first | (refine dw_seq ?_) | (refine dw_block ?_) | ((first | (refine dw_reg (N := 95) rfl (by kernel_rfl) ?_) | (apply dw_drw (id := 11) (N := 95) [(0, .light), (1, .light), (2, .light), (3, .light), (4, .light), (5, .light), (6, .light), (7, .light), (8, .step)]; kernel_rfl; rfl; kernel_rfl; (repeat (first | exact Picks.nil | (apply Picks.cons; rfl)))) | (apply dw_drw (id := 15) (N := 95) [(0, .light), (1, .light), (2, .light), (3, .light), (4, .light), (5, .light), (6, .light), (7, .light), (8, .step)]; kernel_rfl; rfl; kernel_rfl; (repeat (first | exact Picks.nil | (apply Picks.cons; rfl)))) | (refine dw_skip ?_) | (refine dw_exit ?_)); simp (decide := true) only [go_sem, reduceIte, reduceCtorEq, Nat.reduceEqDiff, Nat.reduceAdd, Nat.reduceMul, Nat.reduceSub, Nat.reduceLeDiff, Nat.reduceBEq, hi, hib, hlj, he, hw1, hw3, hj1, h0l, Nat.sub_zero, hi1])))
      refine CallC.step (Step.overlaps (t := 23) (tr := 4) (q := a + NB) (sz := 4) (m := 1) (rowsq := [v.map T.c]) (n := 1000) (i := i + 1) (len := xs.length + 1 - (i + 1)) (cap := xs.length + j - (i + 1)) (rows := cr xs ++ anyRows j 4) rfl (by simp (decide := true) only [go_sem, reduceIte, reduceCtorEq, Nat.reduceEqDiff, Nat.reduceAdd, Nat.reduceMul, Nat.reduceSub, Nat.reduceLeDiff, Nat.reduceBEq]) Try.func40 (by kernel_rfl) (by kernel_rfl) (by kernel_rfl) (by kernel_rfl) Try.underlying23 (inf := Try.t40) (by kernel_rfl)
        (by simp (decide := true) only [go_sem, reduceIte, reduceCtorEq, Nat.reduceEqDiff, Nat.reduceAdd, Nat.reduceMul, Nat.reduceSub, Nat.reduceLeDiff, Nat.reduceBEq]) (by simp (decide := true) only [go_sem, reduceIte, reduceCtorEq, Nat.reduceEqDiff, Nat.reduceAdd, Nat.reduceMul, Nat.reduceSub, Nat.reduceLeDiff, Nat.reduceBEq, hmq]) (by simp) (by omega) (by omega) (by simp (decide := true) only [go_sem, reduceIte, reduceCtorEq, Nat.reduceEqDiff, Nat.reduceAdd, Nat.reduceMul, Nat.reduceSub, Nat.reduceLeDiff, Nat.reduceBEq]) (by simp (decide := true) only [go_sem, reduceIte, reduceCtorEq, Nat.reduceEqDiff, Nat.reduceAdd, Nat.reduceMul, Nat.reduceSub, Nat.reduceLeDiff, Nat.reduceBEq, hml]) (fun e => by have := congrArg List.length e; simp [anyRows_len, cr_len] at this; omega) hz2 (by omega) hqn ?_)
      simp (decide := true) only [go_sem, reduceIte, reduceCtorEq, Nat.reduceEqDiff, Nat.reduceAdd, Nat.reduceMul, Nat.reduceSub, Nat.reduceLeDiff, Nat.reduceBEq]
      (repeat (first | (refine dw_seq ?_) | (refine dw_block ?_) | ((first | (refine dw_reg (N := 95) rfl (by kernel_rfl) ?_) | (apply dw_drw (id := 11) (N := 95) [(0, .light), (1, .light), (2, .light), (3, .light), (4, .light), (5, .light), (6, .light), (7, .light), (8, .step)]; kernel_rfl; rfl; kernel_rfl; (repeat (first | exact Picks.nil | (apply Picks.cons; rfl)))) | (apply dw_drw (id := 15) (N := 95) [(0, .light), (1, .light), (2, .light), (3, .light), (4, .light), (5, .light), (6, .light), (7, .light), (8, .step)]; kernel_rfl; rfl; kernel_rfl; (repeat (first | exact Picks.nil | (apply Picks.cons; rfl)))) | (refine dw_skip ?_) | (refine dw_exit ?_)); simp (decide := true) only [go_sem, reduceIte, reduceCtorEq, Nat.reduceEqDiff, Nat.reduceAdd, Nat.reduceMul, Nat.reduceSub, Nat.reduceLeDiff, Nat.reduceBEq])))
      apply dw_cond; (simp (decide := true) only [go_sem, reduceIte, reduceCtorEq, Nat.reduceEqDiff, Nat.reduceAdd, Nat.reduceMul, Nat.reduceSub, Nat.reduceLeDiff, Nat.reduceBEq]; rfl)
      · intro _
        have hi2 : i ≤ xs.length + 1 := by omega
        have hRl : xs.length + j = (cr xs ++ anyRows j 4).length := by simp [anyRows_len, cr_len]
        have g1 := ins_room1 (cr xs) i j 4 hlt' hj0
        have g2 := ins_room2 (cr xs) (v.map T.c) i (j - 1) 4 hlt'
        rw [cr_take, hcl] at g1 g2
        have hzr2 : RowsSz 4 (cr (xs.take (i + 1)) ++ ((cr xs).drop i ++ anyRows (j - 1) 4)) := fun r hr => by
          simp only [List.mem_append] at hr
          rcases hr with h | h | h
          · exact cr_sz (fun r hr => hz r (List.mem_of_mem_take hr)) r h
          · exact hzr r (List.mem_of_mem_drop h)
          · exact anyRows_sz _ 4 r h
        (repeat (first | (refine dw_seq ?_) | (refine dw_block ?_) | ((first | (refine dw_reg (N := 95) rfl (by kernel_rfl) ?_) | (apply dw_drw (id := 11) (N := 95) [(0, .light), (1, .light), (2, .light), (3, .light), (4, .light), (5, .light), (6, .light), (7, .light), (8, .step)]; kernel_rfl; rfl; kernel_rfl; (repeat (first | exact Picks.nil | (apply Picks.cons; rfl)))) | (apply dw_drw (id := 15) (N := 95) [(0, .light), (1, .light), (2, .light), (3, .light), (4, .light), (5, .light), (6, .light), (7, .light), (8, .step)]; kernel_rfl; rfl; kernel_rfl; (repeat (first | exact Picks.nil | (apply Picks.cons; rfl)))) | (refine dw_skip ?_) | (refine dw_exit ?_)); simp (decide := true) only [go_sem, reduceIte, reduceCtorEq, Nat.reduceEqDiff, Nat.reduceAdd, Nat.reduceMul, Nat.reduceSub, Nat.reduceLeDiff, Nat.reduceBEq, hi, hib, hlj, he, hw1, hw3, hj1, h0l, Nat.sub_zero, hi1, hi2])))
        refine StepC.mk (Step.copyTo (n := 1000) (sz := 4) (i := i + 1) (len := xs.length + 1 - (i + 1)) (cap := xs.length + j - (i + 1)) (ys := ((cr xs ++ anyRows j 4).drop i).take (xs.length + 1 - i)) (rows := cr xs ++ anyRows j 4) (rows' := cr (xs.take (i + 1)) ++ ((cr xs).drop i ++ anyRows (j - 1) 4)) (c := xs.length - i)
          rfl (by simp (decide := true) only [go_sem, reduceIte, reduceCtorEq, Nat.reduceEqDiff, Nat.reduceAdd, Nat.reduceMul, Nat.reduceSub, Nat.reduceLeDiff, Nat.reduceBEq]) (by simp (decide := true) only [go_sem, reduceIte, reduceCtorEq, Nat.reduceEqDiff, Nat.reduceAdd, Nat.reduceMul, Nat.reduceSub, Nat.reduceLeDiff, Nat.reduceBEq]) (by simp (decide := true) only [go_sem, reduceIte, reduceCtorEq, Nat.reduceEqDiff, Nat.reduceAdd, Nat.reduceMul, Nat.reduceSub, Nat.reduceLeDiff, Nat.reduceBEq, hml]) (by rw [← hRl]; omega) hz2
          (srcBa (n := 1000) (i := i) (len := xs.length + 1 - i) (cap := xs.length + j - i) (rows := cr xs ++ anyRows j 4) (by simp (decide := true) only [go_sem, reduceIte, reduceCtorEq, Nat.reduceEqDiff, Nat.reduceAdd, Nat.reduceMul, Nat.reduceSub, Nat.reduceLeDiff, Nat.reduceBEq]) (by simp (decide := true) only [go_sem, reduceIte, reduceCtorEq, Nat.reduceEqDiff, Nat.reduceAdd, Nat.reduceMul, Nat.reduceSub, Nat.reduceLeDiff, Nat.reduceBEq, hml]) (by rw [← hRl]; omega) hz2 rfl) (by simp [anyRows_len, cr_len]; omega) g1 ?_)
        simp (decide := true) only [go_sem, reduceIte, reduceCtorEq, Nat.reduceEqDiff, Nat.reduceAdd, Nat.reduceMul, Nat.reduceSub, Nat.reduceLeDiff, Nat.reduceBEq]
        (repeat (first | (refine dw_seq ?_) | (refine dw_block ?_) | ((first | (refine dw_reg (N := 95) rfl (by kernel_rfl) ?_) | (apply dw_drw (id := 11) (N := 95) [(0, .light), (1, .light), (2, .light), (3, .light), (4, .light), (5, .light), (6, .light), (7, .light), (8, .step)]; kernel_rfl; rfl; kernel_rfl; (repeat (first | exact Picks.nil | (apply Picks.cons; rfl)))) | (apply dw_drw (id := 15) (N := 95) [(0, .light), (1, .light), (2, .light), (3, .light), (4, .light), (5, .light), (6, .light), (7, .light), (8, .step)]; kernel_rfl; rfl; kernel_rfl; (repeat (first | exact Picks.nil | (apply Picks.cons; rfl)))) | (refine dw_skip ?_) | (refine dw_exit ?_)); simp (decide := true) only [go_sem, reduceIte, reduceCtorEq, Nat.reduceEqDiff, Nat.reduceAdd, Nat.reduceMul, Nat.reduceSub, Nat.reduceLeDiff, Nat.reduceBEq, hi, hib, hlj, he, hw1, hw3, hj1, h0l, Nat.sub_zero, hi1, hi2])))
        have hti : (cr (xs.take (i + 1))).length = i + 1 := by simp [cr_len]; omega
        rw [cr_take] at g2
        refine StepC.mk (Step.copyTo (n := 1000) (sz := 4) (i := i) (len := xs.length + 1 - i) (cap := xs.length + j - i) (ys := [v.map T.c]) (rows := cr (xs.take (i + 1)) ++ ((cr xs).drop i ++ anyRows (j - 1) 4)) (rows' := cr (xs.take i) ++ (v.map T.c :: ((cr xs).drop i ++ anyRows (j - 1) 4))) (c := 1)
          rfl (by simp (decide := true) only [go_sem, reduceIte, reduceCtorEq, Nat.reduceEqDiff, Nat.reduceAdd, Nat.reduceMul, Nat.reduceSub, Nat.reduceLeDiff, Nat.reduceBEq]) (by simp (decide := true) only [go_sem, reduceIte, reduceCtorEq, Nat.reduceEqDiff, Nat.reduceAdd, Nat.reduceMul, Nat.reduceSub, Nat.reduceLeDiff, Nat.reduceBEq]) (by simp (decide := true) only [go_sem, reduceIte, reduceCtorEq, Nat.reduceEqDiff, Nat.reduceAdd, Nat.reduceMul, Nat.reduceSub, Nat.reduceLeDiff, Nat.reduceBEq]) (by simp only [List.length_append, List.length_drop, anyRows_len, hti, hcl]; omega) hzr2 (srcOne (n := a + NB) (by simp (decide := true) only [go_sem, reduceIte, reduceCtorEq, Nat.reduceEqDiff, Nat.reduceAdd, Nat.reduceMul, Nat.reduceSub, Nat.reduceLeDiff, Nat.reduceBEq]) (by simp (decide := true) only [go_sem, reduceIte, reduceCtorEq, Nat.reduceEqDiff, Nat.reduceAdd, Nat.reduceMul, Nat.reduceSub, Nat.reduceLeDiff, Nat.reduceBEq, hmq]) hvT) (by simp <;> omega) g2 ?_)
        simp (decide := true) only [go_sem, reduceIte, reduceCtorEq, Nat.reduceEqDiff, Nat.reduceAdd, Nat.reduceMul, Nat.reduceSub, Nat.reduceLeDiff, Nat.reduceBEq]
        (repeat (first | (refine dw_seq ?_) | (refine dw_block ?_) | ((first | (refine dw_reg (N := 95) rfl (by kernel_rfl) ?_) | (apply dw_drw (id := 11) (N := 95) [(0, .light), (1, .light), (2, .light), (3, .light), (4, .light), (5, .light), (6, .light), (7, .light), (8, .step)]; kernel_rfl; rfl; kernel_rfl; (repeat (first | exact Picks.nil | (apply Picks.cons; rfl)))) | (apply dw_drw (id := 15) (N := 95) [(0, .light), (1, .light), (2, .light), (3, .light), (4, .light), (5, .light), (6, .light), (7, .light), (8, .step)]; kernel_rfl; rfl; kernel_rfl; (repeat (first | exact Picks.nil | (apply Picks.cons; rfl)))) | (refine dw_skip ?_) | (refine dw_exit ?_)); simp (decide := true) only [go_sem, reduceIte, reduceCtorEq, Nat.reduceEqDiff, Nat.reduceAdd, Nat.reduceMul, Nat.reduceSub, Nat.reduceLeDiff, Nat.reduceBEq])))
        have hjj : xs.length + 1 + (j - 1) = xs.length + j := by omega
        refine dw_weaken (sub_ml (N := 95) (sls := [(6, .one (.ba 1000 4 0 (xs.length + 1) (xs.length + 1 + (j - 1))))]) (bxs := [(1000, cr (xs.take i ++ v :: xs.drop i) ++ anyRows (j - 1) 4)]) rfl (by simp (decide := true) only [go_sem, reduceIte, reduceCtorEq, Nat.reduceEqDiff, Nat.reduceAdd, Nat.reduceMul, Nat.reduceSub, Nat.reduceLeDiff, Nat.reduceBEq, hjj]) (by simp (decide := true) only [go_sem, reduceIte, reduceCtorEq, Nat.reduceEqDiff, Nat.reduceAdd, Nat.reduceMul, Nat.reduceSub, Nat.reduceLeDiff, Nat.reduceBEq, cr_append, cr_cons, cr_drop, List.append_assoc])) ?_
        refine dw_ret ?_; simp (decide := true) only [go_sem, reduceIte, reduceCtorEq, Nat.reduceEqDiff, Nat.reduceAdd, Nat.reduceMul, Nat.reduceSub, Nat.reduceLeDiff, Nat.reduceBEq]
        exact ⟨j - 1, rfl, rfl⟩
      · simp
  · have hie : i = xs.length := by omega
    have he : ((i : Int) == (xs.length : Int)) = true := by simp; omega
    (repeat (first | (refine dw_seq ?_) | (refine dw_block ?_) | ((first | (refine dw_reg (N := 95) rfl (by kernel_rfl) ?_) | (apply dw_drw (id := 11) (N := 95) [(0, .light), (1, .light), (2, .light), (3, .light), (4, .light), (5, .light), (6, .light), (7, .light), (8, .step)]; kernel_rfl; rfl; kernel_rfl; (repeat (first | exact Picks.nil | (apply Picks.cons; rfl)))) | (apply dw_drw (id := 15) (N := 95) [(0, .light), (1, .light), (2, .light), (3, .light), (4, .light), (5, .light), (6, .light), (7, .light), (8, .step)]; kernel_rfl; rfl; kernel_rfl; (repeat (first | exact Picks.nil | (apply Picks.cons; rfl)))) | (refine dw_skip ?_) | (refine dw_exit ?_)); simp (decide := true) only [go_sem, reduceIte, reduceCtorEq, Nat.reduceEqDiff, Nat.reduceAdd, Nat.reduceMul, Nat.reduceSub, Nat.reduceLeDiff, Nat.reduceBEq, hi, hib, hlj, he])))
    apply dw_cond; (simp (decide := true) only [go_sem, reduceIte, reduceCtorEq, Nat.reduceEqDiff, Nat.reduceAdd, Nat.reduceMul, Nat.reduceSub, Nat.reduceLeDiff, Nat.reduceBEq]; rfl)
    · simp
    intro _
    (repeat (first | (refine dw_seq ?_) | (refine dw_block ?_) | ((first | (refine dw_reg (N := 95) rfl (by kernel_rfl) ?_) | (apply dw_drw (id := 11) (N := 95) [(0, .light), (1, .light), (2, .light), (3, .light), (4, .light), (5, .light), (6, .light), (7, .light), (8, .step)]; kernel_rfl; rfl; kernel_rfl; (repeat (first | exact Picks.nil | (apply Picks.cons; rfl)))) | (apply dw_drw (id := 15) (N := 95) [(0, .light), (1, .light), (2, .light), (3, .light), (4, .light), (5, .light), (6, .light), (7, .light), (8, .step)]; kernel_rfl; rfl; kernel_rfl; (repeat (first | exact Picks.nil | (apply Picks.cons; rfl)))) | (refine dw_skip ?_) | (refine dw_exit ?_)); simp (decide := true) only [go_sem, reduceIte, reduceCtorEq, Nat.reduceEqDiff, Nat.reduceAdd, Nat.reduceMul, Nat.reduceSub, Nat.reduceLeDiff, Nat.reduceBEq, hi, hib, hlj, he])))
    apply dw_cond; (simp (decide := true) only [go_sem, reduceIte, reduceCtorEq, Nat.reduceEqDiff, Nat.reduceAdd, Nat.reduceMul, Nat.reduceSub, Nat.reduceLeDiff, Nat.reduceBEq]; rfl)
    · intro _
      (repeat (first | (refine dw_seq ?_) | (refine dw_block ?_) | ((first | (refine dw_reg (N := 95) rfl (by kernel_rfl) ?_) | (apply dw_drw (id := 11) (N := 95) [(0, .light), (1, .light), (2, .light), (3, .light), (4, .light), (5, .light), (6, .light), (7, .light), (8, .step)]; kernel_rfl; rfl; kernel_rfl; (repeat (first | exact Picks.nil | (apply Picks.cons; rfl)))) | (apply dw_drw (id := 15) (N := 95) [(0, .light), (1, .light), (2, .light), (3, .light), (4, .light), (5, .light), (6, .light), (7, .light), (8, .step)]; kernel_rfl; rfl; kernel_rfl; (repeat (first | exact Picks.nil | (apply Picks.cons; rfl)))) | (refine dw_skip ?_) | (refine dw_exit ?_)); simp (decide := true) only [go_sem, reduceIte, reduceCtorEq, Nat.reduceEqDiff, Nat.reduceAdd, Nat.reduceMul, Nat.reduceSub, Nat.reduceLeDiff, Nat.reduceBEq, hi, hib, hlj, he])))
      refine StepC.mk (Step.appendList (n := 1000) (rows := cr xs) (ys := [v.map T.c]) (j := j) (sz := 4) (by_ := 32) rfl rfl (by simp (decide := true) only [go_sem, reduceIte, reduceCtorEq, Nat.reduceEqDiff, Nat.reduceAdd, Nat.reduceMul, Nat.reduceSub, Nat.reduceLeDiff, Nat.reduceBEq]) (by simp (decide := true) only [go_sem, reduceIte, reduceCtorEq, Nat.reduceEqDiff, Nat.reduceAdd, Nat.reduceMul, Nat.reduceSub, Nat.reduceLeDiff, Nat.reduceBEq, hcl]) (by simp (decide := true) only [go_sem, reduceIte, reduceCtorEq, Nat.reduceEqDiff, Nat.reduceAdd, Nat.reduceMul, Nat.reduceSub, Nat.reduceLeDiff, Nat.reduceBEq, hml]) hzr (srcOne (n := a + NB) (by simp (decide := true) only [go_sem, reduceIte, reduceCtorEq, Nat.reduceEqDiff, Nat.reduceAdd, Nat.reduceMul, Nat.reduceSub, Nat.reduceLeDiff, Nat.reduceBEq]) (by simp (decide := true) only [go_sem, reduceIte, reduceCtorEq, Nat.reduceEqDiff, Nat.reduceAdd, Nat.reduceMul, Nat.reduceSub, Nat.reduceLeDiff, Nat.reduceBEq, hmq]) hvT) (by simp [cr_len]; omega) ?_)
      intro j'
      simp (decide := true) only [go_sem, reduceIte, reduceCtorEq, Nat.reduceEqDiff, Nat.reduceAdd, Nat.reduceMul, Nat.reduceSub, Nat.reduceLeDiff, Nat.reduceBEq, hcl]
      (repeat (first | (refine dw_seq ?_) | (refine dw_block ?_) | ((first | (refine dw_reg (N := 95) rfl (by kernel_rfl) ?_) | (apply dw_drw (id := 11) (N := 95) [(0, .light), (1, .light), (2, .light), (3, .light), (4, .light), (5, .light), (6, .light), (7, .light), (8, .step)]; kernel_rfl; rfl; kernel_rfl; (repeat (first | exact Picks.nil | (apply Picks.cons; rfl)))) | (apply dw_drw (id := 15) (N := 95) [(0, .light), (1, .light), (2, .light), (3, .light), (4, .light), (5, .light), (6, .light), (7, .light), (8, .step)]; kernel_rfl; rfl; kernel_rfl; (repeat (first | exact Picks.nil | (apply Picks.cons; rfl)))) | (refine dw_skip ?_) | (refine dw_exit ?_)); simp (decide := true) only [go_sem, reduceIte, reduceCtorEq, Nat.reduceEqDiff, Nat.reduceAdd, Nat.reduceMul, Nat.reduceSub, Nat.reduceLeDiff, Nat.reduceBEq])))
      have hta : xs.take i ++ v :: xs.drop i = xs ++ [v] := by subst hie; simp
      refine dw_weaken (DS.Sub.trans (sub_mv 25 1000 (by decide)) (sub_ml (N := 95) (sls := [(6, .one (.ba 1000 4 0 (xs.length + 1) (xs.length + 1 + j')))]) (bxs := [(1000, cr (xs.take i ++ v :: xs.drop i) ++ anyRows j' 4)]) rfl (by simp (decide := true) only [go_sem, reduceIte, reduceCtorEq, Nat.reduceEqDiff, Nat.reduceAdd, Nat.reduceMul, Nat.reduceSub, Nat.reduceLeDiff, Nat.reduceBEq, hcl]) (by simp (decide := true) only [go_sem, reduceIte, reduceCtorEq, Nat.reduceEqDiff, Nat.reduceAdd, Nat.reduceMul, Nat.reduceSub, Nat.reduceLeDiff, Nat.reduceBEq, hta, cr_append, cr_cons, cr_nil, List.append_assoc]))) ?_
      refine dw_ret ?_; simp (decide := true) only [go_sem, reduceIte, reduceCtorEq, Nat.reduceEqDiff, Nat.reduceAdd, Nat.reduceMul, Nat.reduceSub, Nat.reduceLeDiff, Nat.reduceBEq]
      exact ⟨j', rfl, rfl⟩
    · simp [hie]

end Go.Proofs.Ytbbocdcdidemmaa

/- Consents: Give on both sides. -/
namespace Go.Proofs.Ytbbocdcdidemmaa
open Go.Dl
attribute [local irreducible] DW DCalls ECalls wk IW

def giveAt (xs : List Cons) (c : Cons) (i : Nat) : List Cons := xs.take i ++ c :: xs.drop i
def giveI (xs : List Cons) (d : Int) : Nat := (xs.takeWhile fun x => decide (x.day ≤ d)).length
def giveK (xs : List Cons) (c : Cons) : List Cons := giveAt xs c (giveI xs c.day)

theorem tw_at {α : Type} {q : α → Bool} : ∀ {l : List α} {k : Nat}, (∀ x ∈ l.take k, q x = true) → k ≤ l.length → (∀ x, l[k]? = some x → q x = false) → (l.takeWhile q).length = k
  | [], k, _, hk, _ => by simp at hk; simp [hk]
  | x :: l, 0, _, _, h => by
    have := h x rfl
    simp [List.takeWhile_cons, this]
  | x :: l, k + 1, hi, hk, h => by
    have hx := hi x (by simp)
    rw [List.takeWhile_cons, if_pos hx, List.length_cons, tw_at (fun y hy => hi y (by rw [List.take_succ_cons]; exact List.mem_cons_of_mem _ hy)) (by simpa using hk) (fun y hy => h y (by simpa using hy))]

theorem enc_sz (xs : List Cons) : ∀ r ∈ xs.map Cons.enc, r.length = 4 := fun r hr => by
  obtain ⟨c, _, rfl⟩ := List.mem_map.1 hr; rfl
theorem giveAt_enc (xs : List Cons) (c : Cons) (i : Nat) : (giveAt xs c i).map Cons.enc = (xs.map Cons.enc).take i ++ Cons.enc c :: (xs.map Cons.enc).drop i := by
  simp [giveAt, List.map_take, List.map_drop]

set_option maxRecDepth 10000 in
set_option maxHeartbeats 4000000 in
--F22
theorem give_D (xs : List Cons) (c : Cons) (hl : xs.length ≤ 100000) : DCalls Try.prog 22 [dv (.sl 4 (xs.map Cons.enc)), .agg (cRow c)] (dv (.sl 4 ((giveK xs c).map Cons.enc))) := by
  have hmax : maxLen = 9223372036854775807 := rfl
  have hNB := NB_big
  refine dcalls (N := 28) (rs := [.tmp 4]) (by kernel_rfl) Try.func22 rfl rfl rfl (by simp) ?_
  (repeat (first | (refine dw_seq ?_) | (refine dw_block ?_) | ((first | (refine dw_reg (N := 28) rfl (by kernel_rfl) ?_) | (apply dw_drw (id := 2) (N := 28) [(0, .light), (1, .light), (2, .light), (3, .light), (4, .light), (5, .light), (6, .light), (7, .light), (8, .light), (9, .light), (10, .light), (11, .light), (12, .light), (13, .light)]; kernel_rfl; rfl; kernel_rfl; (repeat (first | exact Picks.nil | (apply Picks.cons; rfl)))) | (refine dw_skip ?_) | (refine dw_exit ?_)); simp (decide := true) only [go_sem, reduceIte, reduceCtorEq, Nat.reduceEqDiff, Nat.reduceAdd, Nat.reduceMul, Nat.reduceSub, Nat.reduceLeDiff, Nat.reduceBEq, cRow])))
  refine dw_after (fun k : Nat => kn 28 [(0, dv (.sl 4 (xs.map Cons.enc))), (3, .one (.bx 3 4 0 0)), (5, dv (li k))] (ml [(3, [cRow c])])) (fun k => k ≤ xs.length ∧ giveK xs c = giveAt xs c k) ?_ ?_
  · refine dw_loop_fam (fun k : Nat => kn 28 [(0, dv (.sl 4 (xs.map Cons.enc))), (3, .one (.bx 3 4 0 0)), (5, dv (li k))] (ml [(3, [cRow c])])) (fun k => k ≤ xs.length ∧ ∀ x ∈ xs.take k, decide (x.day ≤ c.day) = true) (fun k => xs.length - k) 0 (sub_ml rfl (by simp (decide := true) only [go_sem, reduceIte, reduceCtorEq, Nat.reduceEqDiff, Nat.reduceAdd, Nat.reduceMul, Nat.reduceSub, Nat.reduceLeDiff, Nat.reduceBEq]) (by simp (decide := true) only [go_sem, reduceIte, reduceCtorEq, Nat.reduceEqDiff, Nat.reduceAdd, Nat.reduceMul, Nat.reduceSub, Nat.reduceLeDiff, Nat.reduceBEq] <;> rfl)) ⟨by omega, by simp⟩ ?_
    rintro k ⟨hk, hall⟩
    have hdone : (∀ x, xs[k]? = some x → decide (x.day ≤ c.day) = false) → giveK xs c = giveAt xs c k := fun h => by
      rw [giveK, giveI, tw_at hall hk h]
    cases hlt : decide ((k : Int) < (xs.length : Int))
    · have hke : k = xs.length := by simp at hlt; omega
      (repeat' (first | (refine dw_seq ?_) | (refine dw_block ?_) | ((first | (refine dw_reg (N := 28) rfl (by kernel_rfl) ?_) | (apply dw_drw (id := 2) (N := 28) [(0, .light), (1, .light), (2, .light), (3, .light), (4, .light), (5, .light), (6, .light), (7, .light), (8, .light), (9, .light), (10, .light), (11, .light), (12, .light), (13, .light)]; kernel_rfl; rfl; kernel_rfl; (repeat (first | exact Picks.nil | (apply Picks.cons; rfl)))) | (refine dw_skip ?_) | (refine dw_exit ?_)); simp (decide := true) only [go_sem, reduceIte, reduceCtorEq, Nat.reduceEqDiff, Nat.reduceAdd, Nat.reduceMul, Nat.reduceSub, Nat.reduceLeDiff, Nat.reduceBEq, hlt, cRow]) | (apply dw_cond; (simp (decide := true) only [go_sem, reduceIte, reduceCtorEq, Nat.reduceEqDiff, Nat.reduceAdd, Nat.reduceMul, Nat.reduceSub, Nat.reduceLeDiff, Nat.reduceBEq, hlt, cRow]; rfl); all_goals (intro hcnd; first | (exact absurd hcnd (by decide)) | skip)) | ((first | refine guardC_f ?_ ?_ | refine guardC_t ?_ ?_) <;> (intro hcnd; simp (decide := true) only [go_sem, reduceIte, reduceCtorEq, Nat.reduceEqDiff, Nat.reduceAdd, Nat.reduceMul, Nat.reduceSub, Nat.reduceLeDiff, Nat.reduceBEq, hcnd, hlt, cRow]))))
      exact ⟨k, ⟨hk, hdone (fun x hx => by rw [hke] at hx; simp at hx)⟩, sub_ml rfl (by simp (decide := true) only [go_sem, reduceIte, reduceCtorEq, Nat.reduceEqDiff, Nat.reduceAdd, Nat.reduceMul, Nat.reduceSub, Nat.reduceLeDiff, Nat.reduceBEq]) (by simp (decide := true) only [go_sem, reduceIte, reduceCtorEq, Nat.reduceEqDiff, Nat.reduceAdd, Nat.reduceMul, Nat.reduceSub, Nat.reduceLeDiff, Nat.reduceBEq, cRow])⟩
    · have hkl : k < xs.length := by simpa using hlt
      have hx : xs[k]? = some xs[k] := List.getElem?_eq_getElem hkl
      have hw := wrap_succ k (by omega)
      cases hd : decide (xs[k].day ≤ c.day)
      · (repeat' (first | (refine dw_seq ?_) | (refine dw_block ?_) | ((first | (refine dw_reg (N := 28) rfl (by kernel_rfl) ?_) | (apply dw_drw (id := 2) (N := 28) [(0, .light), (1, .light), (2, .light), (3, .light), (4, .light), (5, .light), (6, .light), (7, .light), (8, .light), (9, .light), (10, .light), (11, .light), (12, .light), (13, .light)]; kernel_rfl; rfl; kernel_rfl; (repeat (first | exact Picks.nil | (apply Picks.cons; rfl)))) | (refine dw_skip ?_) | (refine dw_exit ?_)); simp (decide := true) only [go_sem, reduceIte, reduceCtorEq, Nat.reduceEqDiff, Nat.reduceAdd, Nat.reduceMul, Nat.reduceSub, Nat.reduceLeDiff, Nat.reduceBEq, hlt, hx, hd, cRow, Cons.enc]) | (apply dw_cond; (simp (decide := true) only [go_sem, reduceIte, reduceCtorEq, Nat.reduceEqDiff, Nat.reduceAdd, Nat.reduceMul, Nat.reduceSub, Nat.reduceLeDiff, Nat.reduceBEq, hlt, hx, hd, cRow, Cons.enc]; rfl); all_goals (intro hcnd; first | (exact absurd hcnd (by decide)) | skip)) | ((first | refine guardC_f ?_ ?_ | refine guardC_t ?_ ?_) <;> (intro hcnd; simp (decide := true) only [go_sem, reduceIte, reduceCtorEq, Nat.reduceEqDiff, Nat.reduceAdd, Nat.reduceMul, Nat.reduceSub, Nat.reduceLeDiff, Nat.reduceBEq, hcnd, hlt, hx, hd, cRow, Cons.enc]))))
        exact ⟨k, ⟨hk, hdone (fun x h => by rw [hx] at h; injection h with h; rw [← h]; exact hd)⟩, sub_ml rfl (by simp (decide := true) only [go_sem, reduceIte, reduceCtorEq, Nat.reduceEqDiff, Nat.reduceAdd, Nat.reduceMul, Nat.reduceSub, Nat.reduceLeDiff, Nat.reduceBEq]) (by simp (decide := true) only [go_sem, reduceIte, reduceCtorEq, Nat.reduceEqDiff, Nat.reduceAdd, Nat.reduceMul, Nat.reduceSub, Nat.reduceLeDiff, Nat.reduceBEq, cRow])⟩
      · (repeat' (first | (refine dw_seq ?_) | (refine dw_block ?_) | ((first | (refine dw_reg (N := 28) rfl (by kernel_rfl) ?_) | (apply dw_drw (id := 2) (N := 28) [(0, .light), (1, .light), (2, .light), (3, .light), (4, .light), (5, .light), (6, .light), (7, .light), (8, .light), (9, .light), (10, .light), (11, .light), (12, .light), (13, .light)]; kernel_rfl; rfl; kernel_rfl; (repeat (first | exact Picks.nil | (apply Picks.cons; rfl)))) | (refine dw_skip ?_) | (refine dw_exit ?_)); simp (decide := true) only [go_sem, reduceIte, reduceCtorEq, Nat.reduceEqDiff, Nat.reduceAdd, Nat.reduceMul, Nat.reduceSub, Nat.reduceLeDiff, Nat.reduceBEq, hlt, hx, hd, hw, cRow, Cons.enc]) | (apply dw_cond; (simp (decide := true) only [go_sem, reduceIte, reduceCtorEq, Nat.reduceEqDiff, Nat.reduceAdd, Nat.reduceMul, Nat.reduceSub, Nat.reduceLeDiff, Nat.reduceBEq, hlt, hx, hd, hw, cRow, Cons.enc]; rfl); all_goals (intro hcnd; first | (exact absurd hcnd (by decide)) | skip)) | ((first | refine guardC_f ?_ ?_ | refine guardC_t ?_ ?_) <;> (intro hcnd; simp (decide := true) only [go_sem, reduceIte, reduceCtorEq, Nat.reduceEqDiff, Nat.reduceAdd, Nat.reduceMul, Nat.reduceSub, Nat.reduceLeDiff, Nat.reduceBEq, hcnd, hlt, hx, hd, hw, cRow, Cons.enc]))))
        exact ⟨k + 1, ⟨by omega, forall_snoc (take_snoc hx) hall hd⟩, by omega, sub_ml rfl (by simp (decide := true) only [go_sem, reduceIte, reduceCtorEq, Nat.reduceEqDiff, Nat.reduceAdd, Nat.reduceMul, Nat.reduceSub, Nat.reduceLeDiff, Nat.reduceBEq]) (by simp (decide := true) only [go_sem, reduceIte, reduceCtorEq, Nat.reduceEqDiff, Nat.reduceAdd, Nat.reduceMul, Nat.reduceSub, Nat.reduceLeDiff, Nat.reduceBEq, cRow])⟩
  rintro k ⟨hk, hg⟩
  rw [hg, giveAt_enc]
  obtain ⟨ys, hys⟩ : ∃ ys, ys = xs.map Cons.enc := ⟨_, rfl⟩
  have hyl : ys.length = xs.length := by rw [hys]; simp
  have hz : ∀ r ∈ ys, r.length = 4 := by rw [hys]; exact enc_sz xs
  have hvl : (Cons.enc c).length = 4 := rfl
  rw [← hys]
  refine dw_seq ?_
  apply dw_tree (id := 4) (N := 28) [0, 2] [4] (.two 1 (.run [3, 4, 5, 6] .leaf) 3 (.two 1 (.run [4, 5, 6] .leaf) 4 (.run [1, 5, 6] .leaf)))
  kernel_rfl
  rfl
  kernel_rfl
  have hfz : ∀ r ∈ ys.take k ++ Cons.enc c :: ys.drop k, r.length = 4 := fun r hr => by
    simp only [List.mem_append, List.mem_cons] at hr
    rcases hr with h | rfl | h
    · exact hz r (List.mem_of_mem_take h)
    · rfl
    · exact hz r (List.mem_of_mem_drop h)
  have hfl : (ys.take k ++ Cons.enc c :: ys.drop k).length = ys.length + 1 := by simp; omega
  have hle0 : ys.length + 1 ≤ (ys.take k ++ Cons.enc c :: ys.drop k).length := by omega
  have htk : (ys.take k ++ Cons.enc c :: ys.drop k).take (ys.length + 1) = ys.take k ++ Cons.enc c :: ys.drop k := by rw [← hfl, List.take_length]
  simp (decide := true) only [go_sem, reduceIte, reduceCtorEq, Nat.reduceEqDiff, Nat.reduceAdd, Nat.reduceMul, Nat.reduceSub, Nat.reduceLeDiff, Nat.reduceBEq, cRow]
  refine ⟨?_, ?_, ?_⟩
  · refine CallC.eff [] (cloneC_E ys hz (by omega)) rfl (DLeL.of_eq (by simp (decide := true) only [go_sem, reduceIte, reduceCtorEq, Nat.reduceEqDiff, Nat.reduceAdd, Nat.reduceMul, Nat.reduceSub, Nat.reduceLeDiff, Nat.reduceBEq])) (fun k r h => by cases h) (by constructor <;> simp) ?_
    rintro r H' ⟨j, rfl, rfl⟩
    simp (decide := true) only [go_sem, reduceIte, reduceCtorEq, Nat.reduceEqDiff, Nat.reduceAdd, Nat.reduceMul, Nat.reduceSub, Nat.reduceLeDiff, Nat.reduceBEq, callMemAft, cRow]
    refine StepC.mk (Step.buildOne (sz := 4) (by_ := 32) (ns := cRow c) rfl rfl (by simp (decide := true) only [go_sem, reduceIte, reduceCtorEq, Nat.reduceEqDiff, Nat.reduceAdd, Nat.reduceMul, Nat.reduceSub, Nat.reduceLeDiff, Nat.reduceBEq]) (by decide) (by simp (decide := true) only [go_sem, reduceIte, reduceCtorEq, Nat.reduceEqDiff, Nat.reduceAdd, Nat.reduceMul, Nat.reduceSub, Nat.reduceLeDiff, Nat.reduceBEq, cRow]) rfl ?_)
    simp (decide := true) only [go_sem, reduceIte, reduceCtorEq, Nat.reduceEqDiff, Nat.reduceAdd, Nat.reduceMul, Nat.reduceSub, Nat.reduceLeDiff, Nat.reduceBEq, callMemAft, cRow]
    refine CallC.sub (sub_mv 23 1000 (by decide)) rfl ?_
    simp (decide := true) only [go_sem, reduceIte, reduceCtorEq, Nat.reduceEqDiff, Nat.reduceAdd, Nat.reduceMul, Nat.reduceSub, Nat.reduceLeDiff, Nat.reduceBEq]
    refine CallC.eff [26] (insC_E 26 ys j (Cons.enc c) hz hvl k (by omega) (by omega)) rfl (DLeL.of_eq (by simp (decide := true) only [go_sem, reduceIte, reduceCtorEq, Nat.reduceEqDiff, Nat.reduceAdd, Nat.reduceMul, Nat.reduceSub, Nat.reduceLeDiff, Nat.reduceBEq])) (listMem_call (by decide) (by simp (decide := true) only [go_sem, reduceIte, reduceCtorEq, Nat.reduceEqDiff, Nat.reduceAdd, Nat.reduceMul, Nat.reduceSub, Nat.reduceLeDiff, Nat.reduceBEq, callMemAft]) (by simp (decide := true) only [go_sem, reduceIte, reduceCtorEq, Nat.reduceEqDiff, Nat.reduceAdd, Nat.reduceMul, Nat.reduceSub, Nat.reduceLeDiff, Nat.reduceBEq, cRow] <;> rfl)) (by constructor <;> simp [mid]) ?_
    rintro r H' ⟨j', rfl, rfl⟩
    simp (decide := true) only [go_sem, reduceIte, reduceCtorEq, Nat.reduceEqDiff, Nat.reduceAdd, Nat.reduceMul, Nat.reduceSub, Nat.reduceLeDiff, Nat.reduceBEq]
    refine dw_frz 1000 4 (ys.take k ++ Cons.enc c :: ys.drop k) (anyRows j' 4) (by decide) (by simp (decide := true) only [go_sem, reduceIte, reduceCtorEq, Nat.reduceEqDiff, Nat.reduceAdd, Nat.reduceMul, Nat.reduceSub, Nat.reduceLeDiff, Nat.reduceBEq, callMemAft]; rfl) hfz ?_
    refine dw_ret ?_; simp (decide := true) only [go_sem, reduceIte, reduceCtorEq, Nat.reduceEqDiff, Nat.reduceAdd, Nat.reduceMul, Nat.reduceSub, Nat.reduceLeDiff, Nat.reduceBEq, hle0, htk]
  · refine CallC.eff [] (cloneC_E ys hz (by omega)) rfl (DLeL.of_eq (by simp (decide := true) only [go_sem, reduceIte, reduceCtorEq, Nat.reduceEqDiff, Nat.reduceAdd, Nat.reduceMul, Nat.reduceSub, Nat.reduceLeDiff, Nat.reduceBEq])) (fun k r h => by cases h) (by constructor <;> simp) ?_
    rintro r H' ⟨j, rfl, rfl⟩
    simp (decide := true) only [go_sem, reduceIte, reduceCtorEq, Nat.reduceEqDiff, Nat.reduceAdd, Nat.reduceMul, Nat.reduceSub, Nat.reduceLeDiff, Nat.reduceBEq, callMemAft, cRow]
    refine StepC.mk (Step.buildOne (sz := 4) (by_ := 32) (ns := cRow c) rfl rfl (by simp (decide := true) only [go_sem, reduceIte, reduceCtorEq, Nat.reduceEqDiff, Nat.reduceAdd, Nat.reduceMul, Nat.reduceSub, Nat.reduceLeDiff, Nat.reduceBEq]) (by decide) (by simp (decide := true) only [go_sem, reduceIte, reduceCtorEq, Nat.reduceEqDiff, Nat.reduceAdd, Nat.reduceMul, Nat.reduceSub, Nat.reduceLeDiff, Nat.reduceBEq, cRow]) rfl ?_)
    simp (decide := true) only [go_sem, reduceIte, reduceCtorEq, Nat.reduceEqDiff, Nat.reduceAdd, Nat.reduceMul, Nat.reduceSub, Nat.reduceLeDiff, Nat.reduceBEq, callMemAft, cRow]
    refine CallC.sub (sub_mv 23 1000 (by decide)) rfl ?_
    simp (decide := true) only [go_sem, reduceIte, reduceCtorEq, Nat.reduceEqDiff, Nat.reduceAdd, Nat.reduceMul, Nat.reduceSub, Nat.reduceLeDiff, Nat.reduceBEq]
    refine CallC.eff [26] (insC_E 26 ys j (Cons.enc c) hz hvl k (by omega) (by omega)) rfl (DLeL.of_eq (by simp (decide := true) only [go_sem, reduceIte, reduceCtorEq, Nat.reduceEqDiff, Nat.reduceAdd, Nat.reduceMul, Nat.reduceSub, Nat.reduceLeDiff, Nat.reduceBEq])) (listMem_call (by decide) (by simp (decide := true) only [go_sem, reduceIte, reduceCtorEq, Nat.reduceEqDiff, Nat.reduceAdd, Nat.reduceMul, Nat.reduceSub, Nat.reduceLeDiff, Nat.reduceBEq, callMemAft]) (by simp (decide := true) only [go_sem, reduceIte, reduceCtorEq, Nat.reduceEqDiff, Nat.reduceAdd, Nat.reduceMul, Nat.reduceSub, Nat.reduceLeDiff, Nat.reduceBEq, cRow] <;> rfl)) (by constructor <;> simp [mid]) ?_
    rintro r H' ⟨j', rfl, rfl⟩
    simp (decide := true) only [go_sem, reduceIte, reduceCtorEq, Nat.reduceEqDiff, Nat.reduceAdd, Nat.reduceMul, Nat.reduceSub, Nat.reduceLeDiff, Nat.reduceBEq]
    refine dw_frz 1000 4 (ys.take k ++ Cons.enc c :: ys.drop k) (anyRows j' 4) (by decide) (by simp (decide := true) only [go_sem, reduceIte, reduceCtorEq, Nat.reduceEqDiff, Nat.reduceAdd, Nat.reduceMul, Nat.reduceSub, Nat.reduceLeDiff, Nat.reduceBEq, callMemAft]; rfl) hfz ?_
    refine dw_ret ?_; simp (decide := true) only [go_sem, reduceIte, reduceCtorEq, Nat.reduceEqDiff, Nat.reduceAdd, Nat.reduceMul, Nat.reduceSub, Nat.reduceLeDiff, Nat.reduceBEq, hle0, htk]
  · refine StepC.mk (Step.buildOne (sz := 4) (by_ := 32) (ns := cRow c) rfl rfl (by simp (decide := true) only [go_sem, reduceIte, reduceCtorEq, Nat.reduceEqDiff, Nat.reduceAdd, Nat.reduceMul, Nat.reduceSub, Nat.reduceLeDiff, Nat.reduceBEq]) (by decide) (by simp (decide := true) only [go_sem, reduceIte, reduceCtorEq, Nat.reduceEqDiff, Nat.reduceAdd, Nat.reduceMul, Nat.reduceSub, Nat.reduceLeDiff, Nat.reduceBEq, cRow]) rfl ?_)
    simp (decide := true) only [go_sem, reduceIte, reduceCtorEq, Nat.reduceEqDiff, Nat.reduceAdd, Nat.reduceMul, Nat.reduceSub, Nat.reduceLeDiff, Nat.reduceBEq, callMemAft, cRow]
    refine CallC.eff [] (cloneC_E ys hz (by omega)) rfl (DLeL.of_eq (by simp (decide := true) only [go_sem, reduceIte, reduceCtorEq, Nat.reduceEqDiff, Nat.reduceAdd, Nat.reduceMul, Nat.reduceSub, Nat.reduceLeDiff, Nat.reduceBEq])) (fun k r h => by cases h) (by constructor <;> simp) ?_
    rintro r H' ⟨j, rfl, rfl⟩
    simp (decide := true) only [go_sem, reduceIte, reduceCtorEq, Nat.reduceEqDiff, Nat.reduceAdd, Nat.reduceMul, Nat.reduceSub, Nat.reduceLeDiff, Nat.reduceBEq, callMemAft, cRow]
    refine CallC.sub (sub_mv 23 1000 (by decide)) rfl ?_
    simp (decide := true) only [go_sem, reduceIte, reduceCtorEq, Nat.reduceEqDiff, Nat.reduceAdd, Nat.reduceMul, Nat.reduceSub, Nat.reduceLeDiff, Nat.reduceBEq]
    refine CallC.eff [26] (insC_E 26 ys j (Cons.enc c) hz hvl k (by omega) (by omega)) rfl (DLeL.of_eq (by simp (decide := true) only [go_sem, reduceIte, reduceCtorEq, Nat.reduceEqDiff, Nat.reduceAdd, Nat.reduceMul, Nat.reduceSub, Nat.reduceLeDiff, Nat.reduceBEq])) (listMem_call (by decide) (by simp (decide := true) only [go_sem, reduceIte, reduceCtorEq, Nat.reduceEqDiff, Nat.reduceAdd, Nat.reduceMul, Nat.reduceSub, Nat.reduceLeDiff, Nat.reduceBEq, callMemAft]) (by simp (decide := true) only [go_sem, reduceIte, reduceCtorEq, Nat.reduceEqDiff, Nat.reduceAdd, Nat.reduceMul, Nat.reduceSub, Nat.reduceLeDiff, Nat.reduceBEq, cRow] <;> rfl)) (by constructor <;> simp [mid]) ?_
    rintro r H' ⟨j', rfl, rfl⟩
    simp (decide := true) only [go_sem, reduceIte, reduceCtorEq, Nat.reduceEqDiff, Nat.reduceAdd, Nat.reduceMul, Nat.reduceSub, Nat.reduceLeDiff, Nat.reduceBEq]
    refine dw_frz 1000 4 (ys.take k ++ Cons.enc c :: ys.drop k) (anyRows j' 4) (by decide) (by simp (decide := true) only [go_sem, reduceIte, reduceCtorEq, Nat.reduceEqDiff, Nat.reduceAdd, Nat.reduceMul, Nat.reduceSub, Nat.reduceLeDiff, Nat.reduceBEq, callMemAft]; rfl) hfz ?_
    refine dw_ret ?_; simp (decide := true) only [go_sem, reduceIte, reduceCtorEq, Nat.reduceEqDiff, Nat.reduceAdd, Nat.reduceMul, Nat.reduceSub, Nat.reduceLeDiff, Nat.reduceBEq, hle0, htk]
end Go.Proofs.Ytbbocdcdidemmaa

/- Consents: the reference's Give. -/
namespace Go.Proofs.Ytbbocdcdidemmaa
open Go.Dl
attribute [local irreducible] DW DCalls ECalls wk IW

/-- From the end on: the place behind the last consent that isn't later. -/
def giveJ (xs : List Cons) (d : Int) : Nat → Nat
  | 0 => 0
  | m + 1 => if d < ((xs[m]?).map (·.day)).getD 0 then giveJ xs d m else m + 1
def giveR (xs : List Cons) (c : Cons) : List Cons := giveAt xs c (giveJ xs c.day xs.length)

set_option maxRecDepth 10000 in
set_option maxHeartbeats 4000000 in
--F24
theorem rGive_D (xs : List Cons) (c : Cons) (hl : xs.length ≤ 100000) : DCalls Try.prog 24 [dv (.sl 4 (xs.map Cons.enc)), .agg (cRow c)] (dv (.sl 4 ((giveR xs c).map Cons.enc))) := by
  have hmax : maxLen = 9223372036854775807 := rfl
  refine dcalls (N := 38) (rs := [.tmp 4]) (by kernel_rfl) Try.func24 rfl rfl rfl (by simp) ?_
  (repeat (first | (refine dw_seq ?_) | (refine dw_block ?_) | ((first | (refine dw_reg (N := 38) rfl (by kernel_rfl) ?_) | (apply dw_drw (id := 2) (N := 38) [(0, .light), (1, .light), (2, .light), (3, .light), (4, .light), (5, .light), (6, .light), (7, .light), (8, .light), (9, .light), (10, .light), (11, .light), (12, .light)]; kernel_rfl; rfl; kernel_rfl; (repeat (first | exact Picks.nil | (apply Picks.cons; rfl)))) | (refine dw_skip ?_) | (refine dw_exit ?_)); simp (decide := true) only [go_sem, reduceIte, reduceCtorEq, Nat.reduceEqDiff, Nat.reduceAdd, Nat.reduceMul, Nat.reduceSub, Nat.reduceLeDiff, Nat.reduceBEq, cRow])))
  refine dw_after (fun k : Nat => kn 38 [(0, dv (.sl 4 (xs.map Cons.enc))), (3, .one (.bx 3 4 0 0)), (5, dv (li k))] (ml [(3, [cRow c])])) (fun k => k ≤ xs.length ∧ giveR xs c = giveAt xs c k) ?_ ?_
  · refine dw_loop_fam (fun k : Nat => kn 38 [(0, dv (.sl 4 (xs.map Cons.enc))), (3, .one (.bx 3 4 0 0)), (5, dv (li k))] (ml [(3, [cRow c])])) (fun k => k ≤ xs.length ∧ giveJ xs c.day k = giveJ xs c.day xs.length) (fun k => k) xs.length (sub_ml rfl (by simp (decide := true) only [go_sem, reduceIte, reduceCtorEq, Nat.reduceEqDiff, Nat.reduceAdd, Nat.reduceMul, Nat.reduceSub, Nat.reduceLeDiff, Nat.reduceBEq]) (by simp (decide := true) only [go_sem, reduceIte, reduceCtorEq, Nat.reduceEqDiff, Nat.reduceAdd, Nat.reduceMul, Nat.reduceSub, Nat.reduceLeDiff, Nat.reduceBEq] <;> rfl)) ⟨by omega, rfl⟩ ?_
    rintro k ⟨hk, hj⟩
    cases hlt : decide ((0 : Int) < (k : Int))
    · have hke : k = 0 := by simp at hlt; omega
      (repeat' (first | (refine dw_seq ?_) | (refine dw_block ?_) | ((first | (refine dw_reg (N := 38) rfl (by kernel_rfl) ?_) | (apply dw_drw (id := 2) (N := 38) [(0, .light), (1, .light), (2, .light), (3, .light), (4, .light), (5, .light), (6, .light), (7, .light), (8, .light), (9, .light), (10, .light), (11, .light), (12, .light)]; kernel_rfl; rfl; kernel_rfl; (repeat (first | exact Picks.nil | (apply Picks.cons; rfl)))) | (refine dw_skip ?_) | (refine dw_exit ?_)); simp (decide := true) only [go_sem, reduceIte, reduceCtorEq, Nat.reduceEqDiff, Nat.reduceAdd, Nat.reduceMul, Nat.reduceSub, Nat.reduceLeDiff, Nat.reduceBEq, hlt, cRow]) | (apply dw_cond; (simp (decide := true) only [go_sem, reduceIte, reduceCtorEq, Nat.reduceEqDiff, Nat.reduceAdd, Nat.reduceMul, Nat.reduceSub, Nat.reduceLeDiff, Nat.reduceBEq, hlt, cRow]; rfl); all_goals (intro hcnd; first | (exact absurd hcnd (by decide)) | skip)) | ((first | refine guardC_f ?_ ?_ | refine guardC_t ?_ ?_) <;> (intro hcnd; simp (decide := true) only [go_sem, reduceIte, reduceCtorEq, Nat.reduceEqDiff, Nat.reduceAdd, Nat.reduceMul, Nat.reduceSub, Nat.reduceLeDiff, Nat.reduceBEq, hcnd, hlt, cRow]))))
      exact ⟨k, ⟨hk, by rw [giveR, ← hj, hke]; rfl⟩, sub_ml rfl (by simp (decide := true) only [go_sem, reduceIte, reduceCtorEq, Nat.reduceEqDiff, Nat.reduceAdd, Nat.reduceMul, Nat.reduceSub, Nat.reduceLeDiff, Nat.reduceBEq]) (by simp (decide := true) only [go_sem, reduceIte, reduceCtorEq, Nat.reduceEqDiff, Nat.reduceAdd, Nat.reduceMul, Nat.reduceSub, Nat.reduceLeDiff, Nat.reduceBEq, cRow])⟩
    · have hk0 : 0 < k := by simpa using hlt
      obtain ⟨m, hm⟩ : ∃ m, m = k - 1 := ⟨_, rfl⟩
      have hkm : k = m + 1 := by omega
      have hw : IntKind.wrap .i64 ((k : Int) - 1) = ((m : Nat) : Int) := by rw [wrap_i64 (by omega) (by omega)]; omega
      have hml : m < xs.length := by omega
      have hx : xs[m]? = some xs[m] := List.getElem?_eq_getElem hml
      have hgj : giveJ xs c.day k = if c.day < xs[m].day then giveJ xs c.day m else k := by rw [hkm, giveJ, hx]; rfl
      cases hd : decide (c.day < xs[m].day)
      · (repeat' (first | (refine dw_seq ?_) | (refine dw_block ?_) | ((first | (refine dw_reg (N := 38) rfl (by kernel_rfl) ?_) | (apply dw_drw (id := 2) (N := 38) [(0, .light), (1, .light), (2, .light), (3, .light), (4, .light), (5, .light), (6, .light), (7, .light), (8, .light), (9, .light), (10, .light), (11, .light), (12, .light)]; kernel_rfl; rfl; kernel_rfl; (repeat (first | exact Picks.nil | (apply Picks.cons; rfl)))) | (refine dw_skip ?_) | (refine dw_exit ?_)); simp (decide := true) only [go_sem, reduceIte, reduceCtorEq, Nat.reduceEqDiff, Nat.reduceAdd, Nat.reduceMul, Nat.reduceSub, Nat.reduceLeDiff, Nat.reduceBEq, hlt, hw, hx, hd, cRow, Cons.enc]) | (apply dw_cond; (simp (decide := true) only [go_sem, reduceIte, reduceCtorEq, Nat.reduceEqDiff, Nat.reduceAdd, Nat.reduceMul, Nat.reduceSub, Nat.reduceLeDiff, Nat.reduceBEq, hlt, hw, hx, hd, cRow, Cons.enc]; rfl); all_goals (intro hcnd; first | (exact absurd hcnd (by decide)) | skip)) | ((first | refine guardC_f ?_ ?_ | refine guardC_t ?_ ?_) <;> (intro hcnd; simp (decide := true) only [go_sem, reduceIte, reduceCtorEq, Nat.reduceEqDiff, Nat.reduceAdd, Nat.reduceMul, Nat.reduceSub, Nat.reduceLeDiff, Nat.reduceBEq, hcnd, hlt, hw, hx, hd, cRow, Cons.enc]))))
        rw [if_neg (by simpa using hd)] at hgj
        exact ⟨k, ⟨hk, by rw [giveR, ← hj, hgj]⟩, sub_ml rfl (by simp (decide := true) only [go_sem, reduceIte, reduceCtorEq, Nat.reduceEqDiff, Nat.reduceAdd, Nat.reduceMul, Nat.reduceSub, Nat.reduceLeDiff, Nat.reduceBEq]) (by simp (decide := true) only [go_sem, reduceIte, reduceCtorEq, Nat.reduceEqDiff, Nat.reduceAdd, Nat.reduceMul, Nat.reduceSub, Nat.reduceLeDiff, Nat.reduceBEq, cRow])⟩
      · (repeat' (first | (refine dw_seq ?_) | (refine dw_block ?_) | ((first | (refine dw_reg (N := 38) rfl (by kernel_rfl) ?_) | (apply dw_drw (id := 2) (N := 38) [(0, .light), (1, .light), (2, .light), (3, .light), (4, .light), (5, .light), (6, .light), (7, .light), (8, .light), (9, .light), (10, .light), (11, .light), (12, .light)]; kernel_rfl; rfl; kernel_rfl; (repeat (first | exact Picks.nil | (apply Picks.cons; rfl)))) | (refine dw_skip ?_) | (refine dw_exit ?_)); simp (decide := true) only [go_sem, reduceIte, reduceCtorEq, Nat.reduceEqDiff, Nat.reduceAdd, Nat.reduceMul, Nat.reduceSub, Nat.reduceLeDiff, Nat.reduceBEq, hlt, hw, hx, hd, cRow, Cons.enc]) | (apply dw_cond; (simp (decide := true) only [go_sem, reduceIte, reduceCtorEq, Nat.reduceEqDiff, Nat.reduceAdd, Nat.reduceMul, Nat.reduceSub, Nat.reduceLeDiff, Nat.reduceBEq, hlt, hw, hx, hd, cRow, Cons.enc]; rfl); all_goals (intro hcnd; first | (exact absurd hcnd (by decide)) | skip)) | ((first | refine guardC_f ?_ ?_ | refine guardC_t ?_ ?_) <;> (intro hcnd; simp (decide := true) only [go_sem, reduceIte, reduceCtorEq, Nat.reduceEqDiff, Nat.reduceAdd, Nat.reduceMul, Nat.reduceSub, Nat.reduceLeDiff, Nat.reduceBEq, hcnd, hlt, hw, hx, hd, cRow, Cons.enc]))))
        rw [if_pos (by simpa using hd)] at hgj
        exact ⟨m, ⟨by omega, by rw [← hj, hgj]⟩, by omega, sub_ml rfl (by simp (decide := true) only [go_sem, reduceIte, reduceCtorEq, Nat.reduceEqDiff, Nat.reduceAdd, Nat.reduceMul, Nat.reduceSub, Nat.reduceLeDiff, Nat.reduceBEq]) (by simp (decide := true) only [go_sem, reduceIte, reduceCtorEq, Nat.reduceEqDiff, Nat.reduceAdd, Nat.reduceMul, Nat.reduceSub, Nat.reduceLeDiff, Nat.reduceBEq, cRow])⟩
  rintro k ⟨hk, hg⟩
  rw [hg, giveAt_enc]
  obtain ⟨ys, hys⟩ : ∃ ys, ys = xs.map Cons.enc := ⟨_, rfl⟩
  have hyl : ys.length = xs.length := by rw [hys]; simp
  rw [← hys]
  have hky : k ≤ ys.length := by omega
  have h0 := Nat.zero_le k
  have hlt : (ys.take k).length = k := by simp; omega
  have hld : (ys.drop k).length = ys.length - k := by simp
  have hb1 : k * 32 ≤ 140737488355328 := by omega
  have hb2 : (k + 1) * 32 ≤ 140737488355328 := by omega
  have hb3 : (k + 1 + (ys.length - k)) * 32 ≤ 140737488355328 := by omega
  (repeat (first | (refine dw_seq ?_) | (refine dw_block ?_) | ((first | (refine dw_reg (N := 38) rfl (by kernel_rfl) ?_) | (apply dw_drw (id := 2) (N := 38) [(0, .light), (1, .light), (2, .light), (3, .light), (4, .light), (5, .light), (6, .light), (7, .light), (8, .light), (9, .light), (10, .light), (11, .light), (12, .light)]; kernel_rfl; rfl; kernel_rfl; (repeat (first | exact Picks.nil | (apply Picks.cons; rfl)))) | (refine dw_skip ?_) | (refine dw_exit ?_)); simp (decide := true) only [go_sem, reduceIte, reduceCtorEq, Nat.reduceEqDiff, Nat.reduceAdd, Nat.reduceMul, Nat.reduceSub, Nat.reduceLeDiff, Nat.reduceBEq, hky, h0, hlt, hld, hb1, hb2, hb3, cRow, List.length_append, List.take_length])))
  refine dw_weaken (sub_kn (N := 38) (sls := [(4, dv (.sl 4 (ys.take k ++ Cons.enc c :: ys.drop k)))]) (bx := noMem) rfl (by simp (decide := true) only [go_sem, reduceIte, reduceCtorEq, Nat.reduceEqDiff, Nat.reduceAdd, Nat.reduceMul, Nat.reduceSub, Nat.reduceLeDiff, Nat.reduceBEq, List.append_assoc, Cons.enc]) (by simp [noMem])) ?_
  refine dw_ret ?_; simp (decide := true) only [go_sem, reduceIte, reduceCtorEq, Nat.reduceEqDiff, Nat.reduceAdd, Nat.reduceMul, Nat.reduceSub, Nat.reduceLeDiff, Nat.reduceBEq]
end Go.Proofs.Ytbbocdcdidemmaa

/- Consents: the chapter's example. -/
namespace Go.Proofs.Ytbbocdcdidemmaa
open Go.Dl
attribute [local irreducible] DW DCalls ECalls wk IW

theorem srt_sorted {xs : List Int} (h : xs.Pairwise (· ≤ ·)) : srt xs = xs :=
  List.mergeSort_of_pairwise (h.imp (by intro a b h; simpa using h))

def exP : Pers := ⟨7, ⟨#[65, 110, 97]⟩, false⟩
def ex1 : Cons := ⟨7, 3, 20, 0⟩
def ex2 : Cons := ⟨7, 0, 10, 2⟩
def exR : Rcd := ⟨3, ⟨#[]⟩, 0, 0, [7]⟩

theorem ex_days : daysK [ex2, ex1] exR = [10, 20] := by
  have h : usort (daysOf [ex2, ex1]) = [10, 20] := by
    rw [usort, srt_sorted (by simp [daysOf, ex1, ex2])]; decide
  rw [daysK, h]; decide

set_option maxRecDepth 10000 in
set_option maxHeartbeats 4000000 in
--F11
theorem awake_D : DCalls Try.prog 11 [] (dv (lb true)) := by
  have g1 := give_D [] ex1 (by decide)
  rw [show giveK [] ex1 = [ex1] by decide] at g1
  have g2 := give_D [ex1] ex2 (by decide)
  rw [show giveK [ex1] ex2 = [ex2, ex1] by decide] at g2
  have c1 := check_D [exP] [ex2, ex1] (by decide) (by decide)
  rw [show checkK [exP] [ex2, ex1] = 0 by decide] at c1
  have c2 := check_D [] [ex2, ex1] (by decide) (by decide)
  rw [show checkK [] [ex2, ex1] = 9 by decide] at c2
  have a1 := at_D [ex2, ex1] 7 3 9 (by decide)
  rw [show atK [ex2, ex1] 7 3 9 = 0 by decide] at a1
  have a2 := at_D [ex2, ex1] 7 3 19 (by decide)
  rw [show atK [ex2, ex1] 7 3 19 = 2 by decide] at a2
  have a3 := at_D [ex2, ex1] 7 3 20 (by decide)
  rw [show atK [ex2, ex1] 7 3 20 = 0 by decide] at a3
  have a4 := at_D [ex2, ex1] 7 4 20 (by decide)
  rw [show atK [ex2, ex1] 7 4 20 = 2 by decide] at a4
  have l1 := least_D [ex2, ex1] exR 15 (by decide) (by decide)
  rw [show leastK [ex2, ex1] exR 15 = 2 by decide] at l1
  have d1 := days_D [ex2, ex1] exR (by decide) (by decide)
  rw [ex_days] at d1
  have s1 := sameI_D [10, 20] [10, 20] (by decide)
  simp only [ints, List.map_cons, List.map_nil, Cons.enc, Pers.enc, cRow, Rcd.row, exP, ex1, ex2, exR] at g1 g2 c1 c2 a1 a2 a3 a4 l1 d1 s1
  refine dcalls (N := 65) (rs := [.tmp 0]) (by kernel_rfl) Try.func11 rfl rfl rfl (by simp) ?_
  (repeat' (first | (refine dw_seq ?_) | (refine dw_block ?_) | ((first | (refine dw_reg (N := 65) rfl (by kernel_rfl) ?_) | (refine dw_skip ?_) | (refine dw_exit ?_)); simp (decide := true) only [go_sem, reduceIte, reduceCtorEq, Nat.reduceEqDiff, Nat.reduceAdd, Nat.reduceMul, Nat.reduceSub, Nat.reduceLeDiff, Nat.reduceBEq]) | (apply dw_cond; (simp (decide := true) only [go_sem, reduceIte, reduceCtorEq, Nat.reduceEqDiff, Nat.reduceAdd, Nat.reduceMul, Nat.reduceSub, Nat.reduceLeDiff, Nat.reduceBEq]; rfl); all_goals (intro hcnd; first | (exact absurd hcnd (by decide)) | skip)) | ((first | refine guardC_f ?_ ?_ | refine guardC_t ?_ ?_) <;> (intro hcnd; simp (decide := true) only [go_sem, reduceIte, reduceCtorEq, Nat.reduceEqDiff, Nat.reduceAdd, Nat.reduceMul, Nat.reduceSub, Nat.reduceLeDiff, Nat.reduceBEq, hcnd]))))
  refine CallC.mk g1 (.cons (Le.nil_ 4) (.cons (Le.refl_ _) .nil)) ?_
  simp (decide := true) only [go_sem, reduceIte, reduceCtorEq, Nat.reduceEqDiff, Nat.reduceAdd, Nat.reduceMul, Nat.reduceSub, Nat.reduceLeDiff, Nat.reduceBEq]
  (repeat' (first | (refine dw_seq ?_) | (refine dw_block ?_) | ((first | (refine dw_reg (N := 65) rfl (by kernel_rfl) ?_) | (refine dw_skip ?_) | (refine dw_exit ?_) | (refine CallC.mk (g2) (LeL.of_eq rfl) ?_) | (refine CallC.light (g2) (LeL.of_eq rfl) ?_) | (refine CallC.mk (c1) (LeL.of_eq rfl) ?_) | (refine CallC.light (c1) (LeL.of_eq rfl) ?_) | (refine CallC.mk (a1) (LeL.of_eq rfl) ?_) | (refine CallC.light (a1) (LeL.of_eq rfl) ?_) | (refine CallC.mk (a2) (LeL.of_eq rfl) ?_) | (refine CallC.light (a2) (LeL.of_eq rfl) ?_) | (refine CallC.mk (a3) (LeL.of_eq rfl) ?_) | (refine CallC.light (a3) (LeL.of_eq rfl) ?_) | (refine CallC.mk (a4) (LeL.of_eq rfl) ?_) | (refine CallC.light (a4) (LeL.of_eq rfl) ?_) | (refine CallC.mk (l1) (LeL.of_eq rfl) ?_) | (refine CallC.light (l1) (LeL.of_eq rfl) ?_) | (refine CallC.mk (d1) (LeL.of_eq rfl) ?_) | (refine CallC.light (d1) (LeL.of_eq rfl) ?_) | (refine CallC.mk (s1) (LeL.of_eq rfl) ?_) | (refine CallC.light (s1) (LeL.of_eq rfl) ?_) | (refine dw_ret ?_)); simp (decide := true) only [go_sem, reduceIte, reduceCtorEq, Nat.reduceEqDiff, Nat.reduceAdd, Nat.reduceMul, Nat.reduceSub, Nat.reduceLeDiff, Nat.reduceBEq, bne_self_eq_false]) | (apply dw_cond; (simp (decide := true) only [go_sem, reduceIte, reduceCtorEq, Nat.reduceEqDiff, Nat.reduceAdd, Nat.reduceMul, Nat.reduceSub, Nat.reduceLeDiff, Nat.reduceBEq, bne_self_eq_false]; rfl); all_goals (intro hcnd; first | (exact absurd hcnd (by decide)) | skip)) | ((first | refine guardC_f ?_ ?_ | refine guardC_t ?_ ?_) <;> (intro hcnd; simp (decide := true) only [go_sem, reduceIte, reduceCtorEq, Nat.reduceEqDiff, Nat.reduceAdd, Nat.reduceMul, Nat.reduceSub, Nat.reduceLeDiff, Nat.reduceBEq, hcnd, bne_self_eq_false]))))
  refine CallC.mk c2 (.cons (Le.nil_ 3) (.cons (Le.refl_ _) .nil)) ?_
  simp (decide := true) only [go_sem, reduceIte, reduceCtorEq, Nat.reduceEqDiff, Nat.reduceAdd, Nat.reduceMul, Nat.reduceSub, Nat.reduceLeDiff, Nat.reduceBEq]
  (repeat' (first | (refine dw_seq ?_) | (refine dw_block ?_) | ((first | (refine dw_reg (N := 65) rfl (by kernel_rfl) ?_) | (refine dw_skip ?_) | (refine dw_exit ?_) | (refine CallC.mk (g2) (LeL.of_eq rfl) ?_) | (refine CallC.light (g2) (LeL.of_eq rfl) ?_) | (refine CallC.mk (c1) (LeL.of_eq rfl) ?_) | (refine CallC.light (c1) (LeL.of_eq rfl) ?_) | (refine CallC.mk (a1) (LeL.of_eq rfl) ?_) | (refine CallC.light (a1) (LeL.of_eq rfl) ?_) | (refine CallC.mk (a2) (LeL.of_eq rfl) ?_) | (refine CallC.light (a2) (LeL.of_eq rfl) ?_) | (refine CallC.mk (a3) (LeL.of_eq rfl) ?_) | (refine CallC.light (a3) (LeL.of_eq rfl) ?_) | (refine CallC.mk (a4) (LeL.of_eq rfl) ?_) | (refine CallC.light (a4) (LeL.of_eq rfl) ?_) | (refine CallC.mk (l1) (LeL.of_eq rfl) ?_) | (refine CallC.light (l1) (LeL.of_eq rfl) ?_) | (refine CallC.mk (d1) (LeL.of_eq rfl) ?_) | (refine CallC.light (d1) (LeL.of_eq rfl) ?_) | (refine CallC.mk (s1) (LeL.of_eq rfl) ?_) | (refine CallC.light (s1) (LeL.of_eq rfl) ?_) | (refine dw_ret ?_)); simp (decide := true) only [go_sem, reduceIte, reduceCtorEq, Nat.reduceEqDiff, Nat.reduceAdd, Nat.reduceMul, Nat.reduceSub, Nat.reduceLeDiff, Nat.reduceBEq, bne_self_eq_false]) | (apply dw_cond; (simp (decide := true) only [go_sem, reduceIte, reduceCtorEq, Nat.reduceEqDiff, Nat.reduceAdd, Nat.reduceMul, Nat.reduceSub, Nat.reduceLeDiff, Nat.reduceBEq, bne_self_eq_false]; rfl); all_goals (intro hcnd; first | (exact absurd hcnd (by decide)) | skip)) | ((first | refine guardC_f ?_ ?_ | refine guardC_t ?_ ?_) <;> (intro hcnd; simp (decide := true) only [go_sem, reduceIte, reduceCtorEq, Nat.reduceEqDiff, Nat.reduceAdd, Nat.reduceMul, Nat.reduceSub, Nat.reduceLeDiff, Nat.reduceBEq, hcnd, bne_self_eq_false]))))
end Go.Proofs.Ytbbocdcdidemmaa

/- Plain laws of consents. -/
namespace Go.Proofs.Ytbbocdcdidemmaa
open Go.Dl

theorem errOf_cons {ps : List Pers} {z : Int} {c : Cons} {l : List Cons} : errOf ps z (c :: l) = 0 ↔ oneErr ps z c = 0 ∧ errOf ps c.day l = 0 := by
  simp only [errOf]
  split
  · rename_i h; simp [h]
  · rename_i h; simp [h]

theorem oneErr_zero {ps : List Pers} {z : Int} {c : Cons} : oneErr ps z c = 0 ↔ (persOf ps c.person).2 = true ∧ 0 ≤ c.rcd ∧ c.rcd ≤ 1099511627776 ∧ 1 ≤ c.day ∧ c.day ≤ 109573 ∧ 0 ≤ c.kind ∧ c.kind ≤ 2 ∧ z ≤ c.day := by
  unfold oneErr
  cases h : (persOf ps c.person).2
  · simp
  · simp only [Bool.true_eq_false, if_false]
    split
    · simp; omega
    · split
      · simp; omega
      · split
        · simp; omega
        · split
          · simp; omega
          · simp; omega

/-- A right list: each consent is right, the days don't fall. -/
theorem errOf_zero {ps : List Pers} : ∀ {l : List Cons} {z : Int}, errOf ps z l = 0 ↔ (∀ c ∈ l, oneErr ps z c = 0) ∧ (daysOf l).Pairwise (· ≤ ·)
  | [], z => by simp [errOf, daysOf]
  | c :: l, z => by
    rw [errOf_cons, errOf_zero (l := l)]
    simp only [daysOf, List.map_cons, List.pairwise_cons, List.mem_cons, List.mem_map, forall_eq_or_imp]
    constructor
    · rintro ⟨h1, h2, h3⟩
      have hz : z ≤ c.day := (oneErr_zero.1 h1).2.2.2.2.2.2.2
      refine ⟨⟨h1, fun x hx => ?_⟩, fun a ⟨x, hx, hxa⟩ => ?_, h3⟩
      · have h4 := oneErr_zero.1 (h2 x hx)
        exact oneErr_zero.2 ⟨h4.1, h4.2.1, h4.2.2.1, h4.2.2.2.1, h4.2.2.2.2.1, h4.2.2.2.2.2.1, h4.2.2.2.2.2.2.1, by omega⟩
      · have h4 := oneErr_zero.1 (h2 x hx); omega
    · rintro ⟨⟨h1, h2⟩, h3, h4⟩
      refine ⟨h1, fun x hx => ?_, h4⟩
      have h5 := oneErr_zero.1 (h2 x hx)
      have h6 := h3 x.day ⟨x, hx, rfl⟩
      exact oneErr_zero.2 ⟨h5.1, h5.2.1, h5.2.2.1, h5.2.2.2.1, h5.2.2.2.2.1, h5.2.2.2.2.2.1, h5.2.2.2.2.2.2.1, h6⟩

structure Right (ps : List Pers) (xs : List Cons) : Prop where
  p50 : ps.length ≤ 50
  l60 : xs.length ≤ 60
  ok : ∀ c ∈ xs, oneErr ps 0 c = 0
  srt : (daysOf xs).Pairwise (· ≤ ·)

theorem check_zero {ps : List Pers} {xs : List Cons} : checkK ps xs = 0 ↔ xs.length ≤ 60 ∧ (∀ c ∈ xs, oneErr ps 0 c = 0) ∧ (daysOf xs).Pairwise (· ≤ ·) := by
  unfold checkK
  split
  · simp; omega
  · rw [errOf_zero]; constructor
    · exact fun h => ⟨by omega, h⟩
    · exact fun h => h.2

theorem right_of {ps : List Pers} {xs : List Cons} (h : rightK ps xs = true) : Right ps xs := by
  simp only [rightK, Bool.and_eq_true, beq_iff_eq] at h
  obtain ⟨h1, h2⟩ := h
  obtain ⟨h3, h4, h5⟩ := check_zero.1 h2
  exact ⟨(few_le h1).1, h3, h4, h5⟩

/-! ### Days -/

theorem days_eq {ps : List Pers} {xs : List Cons} (h : Right ps xs) (r : Rcd) : daysK xs r = daysR xs r := by
  rw [daysK, daysR, usort, srt_sorted h.srt]

/-! ### Give -/

theorem giveI_sorted {xs : List Cons} {d : Int} {m : Nat} (hm : m ≤ xs.length) (h1 : ∀ x ∈ xs.take m, x.day ≤ d) (h2 : ∀ x, xs[m]? = some x → d < x.day) : giveI xs d = m :=
  tw_at (fun x hx => by simpa using h1 x hx) hm fun x hx => by have := h2 x hx; simpa using this

theorem day_le {xs : List Cons} (h : (daysOf xs).Pairwise (· ≤ ·)) {i j : Nat} {x y : Cons} (hx : xs[i]? = some x) (hy : xs[j]? = some y) (hij : i ≤ j) : x.day ≤ y.day := by
  obtain ⟨hi, rfl⟩ := List.getElem?_eq_some_iff.1 hx
  obtain ⟨hj, rfl⟩ := List.getElem?_eq_some_iff.1 hy
  rcases Nat.lt_or_ge i j with h1 | h1
  · have := List.pairwise_iff_getElem.1 h i j (by simpa [daysOf] using hi) (by simpa [daysOf] using hj) h1
    simpa [daysOf] using this
  · obtain rfl : i = j := by omega
    exact Int.le_refl _

theorem mem_take_get {α : Type} {xs : List α} {m : Nat} {x : α} (h : x ∈ xs.take m) : ∃ i, i < m ∧ xs[i]? = some x := by
  obtain ⟨i, hi⟩ := List.mem_iff_getElem?.1 h
  rw [List.getElem?_take] at hi
  split at hi
  · rename_i h1; exact ⟨i, h1, hi⟩
  · cases hi

theorem giveJ_eq {xs : List Cons} (h : (daysOf xs).Pairwise (· ≤ ·)) (d : Int) : ∀ m, m ≤ xs.length → (∀ x, xs[m]? = some x → d < x.day) → giveJ xs d m = giveI xs d
  | 0, _, h2 => (giveI_sorted (Nat.zero_le _) (by simp) h2).symm
  | m + 1, hm, h2 => by
    have hx : xs[m]? = some xs[m] := List.getElem?_eq_getElem (by omega)
    simp only [giveJ, hx, Option.map_some, Option.getD_some]
    split
    · rename_i hlt
      exact giveJ_eq h d m (by omega) fun x hx' => by rw [hx] at hx'; injection hx' with e; rw [← e]; exact hlt
    · rename_i hge
      refine (giveI_sorted hm (fun x hx' => ?_) h2).symm
      obtain ⟨i, hi, hxi⟩ := mem_take_get hx'
      have := day_le h hxi hx (by omega)
      omega

theorem give_eq {xs : List Cons} (h : (daysOf xs).Pairwise (· ≤ ·)) (c : Cons) : giveR xs c = giveK xs c := by
  rw [giveR, giveK, giveJ_eq h c.day xs.length (Nat.le_refl _) (fun x hx => by simp at hx)]

theorem tw_take {α : Type} (q : α → Bool) (l : List α) : l.take (l.takeWhile q).length = l.takeWhile q := by
  have h := List.takeWhile_append_dropWhile (p := q) (l := l)
  have h2 := congrArg (List.take (l.takeWhile q).length) h
  rw [List.take_left] at h2
  exact h2.symm
theorem tw_drop {α : Type} (q : α → Bool) (l : List α) : l.drop (l.takeWhile q).length = l.dropWhile q := by
  have h := List.takeWhile_append_dropWhile (p := q) (l := l)
  have h2 := congrArg (List.drop (l.takeWhile q).length) h
  rw [List.drop_left] at h2
  exact h2.symm

theorem giveK_eq (xs : List Cons) (c : Cons) : giveK xs c = (xs.takeWhile fun x => decide (x.day ≤ c.day)) ++ c :: xs.dropWhile fun x => decide (x.day ≤ c.day) := by
  rw [giveK, giveAt, giveI, tw_take, tw_drop]

theorem low_le {xs : List Cons} {d : Int} : ∀ x ∈ xs.takeWhile (fun x => decide (x.day ≤ d)), x.day ≤ d := by
  induction xs with
  | nil => simp
  | cons y l ih =>
    intro x hx
    rw [List.takeWhile_cons] at hx
    split at hx
    · rename_i h
      rcases List.mem_cons.1 hx with rfl | hx
      · simpa using h
      · exact ih x hx
    · simp at hx

theorem high_gt {xs : List Cons} (h : (daysOf xs).Pairwise (· ≤ ·)) {d : Int} : ∀ x ∈ xs.dropWhile (fun x => decide (x.day ≤ d)), d < x.day := by
  induction xs with
  | nil => simp
  | cons y l ih =>
    intro x hx
    simp only [daysOf, List.map_cons, List.pairwise_cons] at h
    rw [List.dropWhile_cons] at hx
    split at hx
    · exact ih h.2 x hx
    · rename_i hy
      have hy' : d < y.day := by simpa using hy
      rcases List.mem_cons.1 hx with rfl | hx
      · exact hy'
      · have := h.1 x.day (List.mem_map.2 ⟨x, hx, rfl⟩); omega

theorem give_mem {xs : List Cons} {c x : Cons} : x ∈ giveK xs c ↔ x = c ∨ x ∈ xs := by
  rw [giveK_eq]
  have h := List.takeWhile_append_dropWhile (p := fun x : Cons => decide (x.day ≤ c.day)) (l := xs)
  constructor
  · intro hx
    rcases List.mem_append.1 hx with hx | hx
    · right; rw [← h]; exact List.mem_append_left _ hx
    · rcases List.mem_cons.1 hx with hx | hx
      · exact .inl hx
      · right; rw [← h]; exact List.mem_append_right _ hx
  · rintro (rfl | hx)
    · simp
    · rw [← h] at hx
      rcases List.mem_append.1 hx with hx | hx
      · exact List.mem_append_left _ hx
      · exact List.mem_append_right _ (List.mem_cons_of_mem _ hx)

theorem give_sorted {xs : List Cons} (h : (daysOf xs).Pairwise (· ≤ ·)) (c : Cons) : (daysOf (giveK xs c)).Pairwise (· ≤ ·) := by
  rw [giveK_eq, daysOf, List.map_append, List.map_cons]
  have hall := List.takeWhile_append_dropWhile (p := fun x : Cons => decide (x.day ≤ c.day)) (l := xs)
  have h' : ((xs.takeWhile fun x => decide (x.day ≤ c.day)).map (·.day) ++ (xs.dropWhile fun x => decide (x.day ≤ c.day)).map (·.day)).Pairwise (· ≤ ·) := by
    rw [← List.map_append, hall]; exact h
  rw [List.pairwise_append] at h' ⊢
  refine ⟨h'.1, ?_, ?_⟩
  · rw [List.pairwise_cons]
    refine ⟨fun a ha => ?_, h'.2.1⟩
    obtain ⟨x, hx, rfl⟩ := List.mem_map.1 ha
    have := high_gt h x hx; omega
  · intro a ha b hb
    obtain ⟨x, hx, rfl⟩ := List.mem_map.1 ha
    have hxd := low_le x hx
    rcases List.mem_cons.1 hb with rfl | hb
    · exact hxd
    · obtain ⟨y, hy, rfl⟩ := List.mem_map.1 hb
      have := high_gt h y hy; omega

theorem give_len (xs : List Cons) (c : Cons) : (giveK xs c).length = xs.length + 1 := by
  rw [giveK_eq]
  have h := congrArg List.length (List.takeWhile_append_dropWhile (p := fun x : Cons => decide (x.day ≤ c.day)) (l := xs))
  rw [List.length_append] at h
  simp; omega

theorem give_right {ps : List Pers} {xs : List Cons} (h : Right ps xs) (hl : xs.length < 60) {c : Cons} (hc : oneErr ps 0 c = 0) : checkK ps (giveK xs c) = 0 := by
  refine check_zero.2 ⟨by rw [give_len]; omega, fun x hx => ?_, give_sorted h.srt c⟩
  rcases give_mem.1 hx with rfl | hx
  · exact hc
  · exact h.ok x hx

theorem check_one {ps : List Pers} {c : Cons} : checkK ps [c] = 0 ↔ oneErr ps 0 c = 0 := by
  rw [check_zero]; simp [daysOf]
end Go.Proofs.Ytbbocdcdidemmaa

/- Consents: the laws (I). -/
namespace Go.Proofs.Ytbbocdcdidemmaa
open Go.Dl
attribute [local irreducible] DW DCalls ECalls wk IW

structure AskT where
  ps : List Pers
  xs : List Cons
  person : Int
  rcd : Int
  day : Int

def AskT.row (a : AskT) : List T := [.c (.sl 3 (a.ps.map Pers.enc)), .c (.sl 4 (a.xs.map Cons.enc)), .c (li a.person), .c (li a.rcd), .c (li a.day)]

set_option maxRecDepth 10000 in
set_option maxHeartbeats 4000000 in
--F3
theorem lawCheck (ps : List Pers) (xs : List Cons) : DCalls Try.prog 3 [dv (.sl 3 (ps.map Pers.enc)), dv (.sl 4 (xs.map Cons.enc))] (dv (lb true)) := by
  refine dcalls (N := 20) (rs := [.tmp 4]) (by kernel_rfl) Try.func3 rfl rfl rfl (by simp) ?_
  cases hf : fewK ps xs
  · (repeat' (first | (refine dw_seq ?_) | (refine dw_block ?_) | ((first | (refine dw_reg (N := 20) rfl (by kernel_rfl) ?_) | (refine dw_skip ?_) | (refine dw_exit ?_) | (refine CallC.mk (few_D ps xs) (LeL.of_eq rfl) ?_) | (refine CallC.light (few_D ps xs) (LeL.of_eq rfl) ?_) | (refine CallC.mk (awake_D) (LeL.of_eq rfl) ?_) | (refine CallC.light (awake_D) (LeL.of_eq rfl) ?_) | (refine dw_ret ?_)); simp (decide := true) only [go_sem, reduceIte, reduceCtorEq, Nat.reduceEqDiff, Nat.reduceAdd, Nat.reduceMul, Nat.reduceSub, Nat.reduceLeDiff, Nat.reduceBEq, hf]) | (apply dw_cond; (simp (decide := true) only [go_sem, reduceIte, reduceCtorEq, Nat.reduceEqDiff, Nat.reduceAdd, Nat.reduceMul, Nat.reduceSub, Nat.reduceLeDiff, Nat.reduceBEq, hf]; rfl); all_goals (intro hcnd; first | (exact absurd hcnd (by decide)) | skip)) | ((first | refine guardC_f ?_ ?_ | refine guardC_t ?_ ?_) <;> (intro hcnd; simp (decide := true) only [go_sem, reduceIte, reduceCtorEq, Nat.reduceEqDiff, Nat.reduceAdd, Nat.reduceMul, Nat.reduceSub, Nat.reduceLeDiff, Nat.reduceBEq, hcnd, hf]))))
  · obtain ⟨h1, h2⟩ := few_le hf
    have h0 : (checkK ps xs == checkK ps xs) = true := by simp
    (repeat' (first | (refine dw_seq ?_) | (refine dw_block ?_) | ((first | (refine dw_reg (N := 20) rfl (by kernel_rfl) ?_) | (refine dw_skip ?_) | (refine dw_exit ?_) | (refine CallC.mk (few_D ps xs) (LeL.of_eq rfl) ?_) | (refine CallC.light (few_D ps xs) (LeL.of_eq rfl) ?_) | (refine CallC.mk (awake_D) (LeL.of_eq rfl) ?_) | (refine CallC.light (awake_D) (LeL.of_eq rfl) ?_) | (refine CallC.mk (check_D ps xs (by omega) (by omega)) (LeL.of_eq rfl) ?_) | (refine CallC.light (check_D ps xs (by omega) (by omega)) (LeL.of_eq rfl) ?_) | (refine CallC.mk (rCheck_D ps xs (by omega) (by omega)) (LeL.of_eq rfl) ?_) | (refine CallC.light (rCheck_D ps xs (by omega) (by omega)) (LeL.of_eq rfl) ?_) | (refine dw_ret ?_)); simp (decide := true) only [go_sem, reduceIte, reduceCtorEq, Nat.reduceEqDiff, Nat.reduceAdd, Nat.reduceMul, Nat.reduceSub, Nat.reduceLeDiff, Nat.reduceBEq, hf, h0]) | (apply dw_cond; (simp (decide := true) only [go_sem, reduceIte, reduceCtorEq, Nat.reduceEqDiff, Nat.reduceAdd, Nat.reduceMul, Nat.reduceSub, Nat.reduceLeDiff, Nat.reduceBEq, hf, h0]; rfl); all_goals (intro hcnd; first | (exact absurd hcnd (by decide)) | skip)) | ((first | refine guardC_f ?_ ?_ | refine guardC_t ?_ ?_) <;> (intro hcnd; simp (decide := true) only [go_sem, reduceIte, reduceCtorEq, Nat.reduceEqDiff, Nat.reduceAdd, Nat.reduceMul, Nat.reduceSub, Nat.reduceLeDiff, Nat.reduceBEq, hcnd, hf, h0]))))

set_option maxRecDepth 10000 in
set_option maxHeartbeats 4000000 in
--F4
theorem lawAt (a : AskT) : DCalls Try.prog 4 [.agg a.row] (dv (lb true)) := by
  refine dcalls (N := 32) (rs := [.tmp 2]) (by kernel_rfl) Try.func4 rfl rfl rfl (by simp) ?_
  cases hf : rightK a.ps a.xs
  · (repeat' (first | (refine dw_seq ?_) | (refine dw_block ?_) | ((first | (refine dw_reg (N := 32) rfl (by kernel_rfl) ?_) | (apply dw_drw (id := 3) (N := 32) [(0, .light), (1, .light), (2, .light), (3, .light), (4, .light), (5, .light), (6, .light), (7, .light), (8, .light), (9, .light), (10, .light), (11, .light), (12, .light), (13, .light), (14, .light), (15, .light), (16, .light), (17, .step), (18, .light), (19, .light), (20, .step), (21, .light), (22, .light)]; kernel_rfl; rfl; kernel_rfl; (repeat (first | exact Picks.nil | (apply Picks.cons; rfl)))) | (refine dw_skip ?_) | (refine dw_exit ?_) | (refine CallC.mk (right_D a.ps a.xs) (LeL.of_eq rfl) ?_) | (refine CallC.light (right_D a.ps a.xs) (LeL.of_eq rfl) ?_) | (refine CallC.mk (awake_D) (LeL.of_eq rfl) ?_) | (refine CallC.light (awake_D) (LeL.of_eq rfl) ?_) | (refine dw_ret ?_)); simp (decide := true) only [go_sem, reduceIte, reduceCtorEq, Nat.reduceEqDiff, Nat.reduceAdd, Nat.reduceMul, Nat.reduceSub, Nat.reduceLeDiff, Nat.reduceBEq, hf, AskT.row]) | (apply dw_cond; (simp (decide := true) only [go_sem, reduceIte, reduceCtorEq, Nat.reduceEqDiff, Nat.reduceAdd, Nat.reduceMul, Nat.reduceSub, Nat.reduceLeDiff, Nat.reduceBEq, hf, AskT.row]; rfl); all_goals (intro hcnd; first | (exact absurd hcnd (by decide)) | skip)) | ((first | refine guardC_f ?_ ?_ | refine guardC_t ?_ ?_) <;> (intro hcnd; simp (decide := true) only [go_sem, reduceIte, reduceCtorEq, Nat.reduceEqDiff, Nat.reduceAdd, Nat.reduceMul, Nat.reduceSub, Nat.reduceLeDiff, Nat.reduceBEq, hcnd, hf, AskT.row]))))
  · have hr := right_of hf
    have hl := hr.l60
    have h0 : (atK a.xs a.person a.rcd a.day == atK a.xs a.person a.rcd a.day) = true := by simp
    have hmax : maxLen = 9223372036854775807 := rfl
    (repeat' (first | (refine dw_seq ?_) | (refine dw_block ?_) | ((first | (refine dw_reg (N := 32) rfl (by kernel_rfl) ?_) | (apply dw_drw (id := 3) (N := 32) [(0, .light), (1, .light), (2, .light), (3, .light), (4, .light), (5, .light), (6, .light), (7, .light), (8, .light), (9, .light), (10, .light), (11, .light), (12, .light), (13, .light), (14, .light), (15, .light), (16, .light), (17, .step), (18, .light), (19, .light), (20, .step), (21, .light), (22, .light)]; kernel_rfl; rfl; kernel_rfl; (repeat (first | exact Picks.nil | (apply Picks.cons; rfl)))) | (refine dw_skip ?_) | (refine dw_exit ?_) | (refine CallC.mk (right_D a.ps a.xs) (LeL.of_eq rfl) ?_) | (refine CallC.light (right_D a.ps a.xs) (LeL.of_eq rfl) ?_) | (refine CallC.mk (awake_D) (LeL.of_eq rfl) ?_) | (refine CallC.light (awake_D) (LeL.of_eq rfl) ?_) | (refine CallC.mk (at_D a.xs a.person a.rcd a.day (by omega)) (LeL.of_eq rfl) ?_) | (refine CallC.light (at_D a.xs a.person a.rcd a.day (by omega)) (LeL.of_eq rfl) ?_) | (refine CallC.mk (rAt_D a.xs a.person a.rcd a.day (by omega)) (LeL.of_eq rfl) ?_) | (refine CallC.light (rAt_D a.xs a.person a.rcd a.day (by omega)) (LeL.of_eq rfl) ?_) | (refine dw_ret ?_)); simp (decide := true) only [go_sem, reduceIte, reduceCtorEq, Nat.reduceEqDiff, Nat.reduceAdd, Nat.reduceMul, Nat.reduceSub, Nat.reduceLeDiff, Nat.reduceBEq, hf, AskT.row, h0]) | (apply dw_cond; (simp (decide := true) only [go_sem, reduceIte, reduceCtorEq, Nat.reduceEqDiff, Nat.reduceAdd, Nat.reduceMul, Nat.reduceSub, Nat.reduceLeDiff, Nat.reduceBEq, hf, AskT.row, h0]; rfl); all_goals (intro hcnd; first | (exact absurd hcnd (by decide)) | skip)) | ((first | refine guardC_f ?_ ?_ | refine guardC_t ?_ ?_) <;> (intro hcnd; simp (decide := true) only [go_sem, reduceIte, reduceCtorEq, Nat.reduceEqDiff, Nat.reduceAdd, Nat.reduceMul, Nat.reduceSub, Nat.reduceLeDiff, Nat.reduceBEq, hcnd, hf, AskT.row, h0]))))

set_option maxRecDepth 10000 in
set_option maxHeartbeats 4000000 in
--F5
theorem lawLeast (a : AskT) (sp : List Int) : DCalls Try.prog 5 [.agg a.row, dv (.sl 1 (ints sp))] (dv (lb true)) := by
  refine dcalls (N := 49) (rs := [.tmp 4]) (by kernel_rfl) Try.func5 rfl rfl rfl (by simp) ?_
  cases hf : rightK a.ps a.xs
  · (repeat' (first | (refine dw_seq ?_) | (refine dw_block ?_) | ((first | (refine dw_reg (N := 49) rfl (by kernel_rfl) ?_) | (apply dw_drw (id := 4) (N := 49) [(0, .light), (1, .light), (2, .light), (3, .light), (4, .light), (5, .light), (6, .light), (7, .light), (8, .light), (9, .light), (10, .light), (11, .step), (12, .light), (13, .light), (14, .light), (15, .light), (16, .light), (17, .light), (18, .light), (19, .light), (20, .light), (21, .step), (22, .step), (23, .light), (24, .light), (25, .step), (26, .light), (27, .light)]; kernel_rfl; rfl; kernel_rfl; (repeat (first | exact Picks.nil | (apply Picks.cons; rfl)))) | (refine dw_skip ?_) | (refine dw_exit ?_) | (refine CallC.mk (right_D a.ps a.xs) (LeL.of_eq rfl) ?_) | (refine CallC.light (right_D a.ps a.xs) (LeL.of_eq rfl) ?_) | (refine CallC.mk (awake_D) (LeL.of_eq rfl) ?_) | (refine CallC.light (awake_D) (LeL.of_eq rfl) ?_) | (refine dw_ret ?_)); simp (decide := true) only [go_sem, reduceIte, reduceCtorEq, Nat.reduceEqDiff, Nat.reduceAdd, Nat.reduceMul, Nat.reduceSub, Nat.reduceLeDiff, Nat.reduceBEq, hf, AskT.row]) | (apply dw_cond; (simp (decide := true) only [go_sem, reduceIte, reduceCtorEq, Nat.reduceEqDiff, Nat.reduceAdd, Nat.reduceMul, Nat.reduceSub, Nat.reduceLeDiff, Nat.reduceBEq, hf, AskT.row]; rfl); all_goals (intro hcnd; first | (exact absurd hcnd (by decide)) | skip)) | ((first | refine guardC_f ?_ ?_ | refine guardC_t ?_ ?_) <;> (intro hcnd; simp (decide := true) only [go_sem, reduceIte, reduceCtorEq, Nat.reduceEqDiff, Nat.reduceAdd, Nat.reduceMul, Nat.reduceSub, Nat.reduceLeDiff, Nat.reduceBEq, hcnd, hf, AskT.row]))))
  · have hr := right_of hf
    have hl := hr.l60
    have hmax : maxLen = 9223372036854775807 := rfl
    cases hs : decide ((50 : Int) < (sp.length : Int))
    · have hs' : sp.length ≤ 50 := by simp at hs; omega
      have h1 := least_D a.xs ⟨a.rcd, ⟨#[]⟩, 0, 0, sp⟩ a.day (by omega) (by simp only; omega)
      have h2 := rLeast_D a.xs ⟨a.rcd, ⟨#[]⟩, 0, 0, sp⟩ a.day (by omega) (by simp only; omega)
      have h3 := days_D a.xs ⟨a.rcd, ⟨#[]⟩, 0, 0, sp⟩ (by omega) (by simp only; omega)
      have h4 := rDays_D a.xs ⟨a.rcd, ⟨#[]⟩, 0, 0, sp⟩ (by omega) (by simp only; omega)
      rw [← days_eq hr] at h4
      obtain ⟨ds, hds⟩ : ∃ ds, ds = daysK a.xs ⟨a.rcd, ⟨#[]⟩, 0, 0, sp⟩ := ⟨_, rfl⟩
      obtain ⟨lv, hlv⟩ : ∃ lv, lv = leastK a.xs ⟨a.rcd, ⟨#[]⟩, 0, 0, sp⟩ a.day := ⟨_, rfl⟩
      rw [← hds] at h3 h4
      rw [← hlv] at h1 h2
      have hdl : ds.length ≤ maxLen := by
        rw [hds, daysK]
        have e1 := List.length_filter_le (chg a.xs ⟨a.rcd, ⟨#[]⟩, 0, 0, sp⟩) (usort (daysOf a.xs))
        have e2 := usort_len (daysOf a.xs)
        have e3 : (daysOf a.xs).length = a.xs.length := by simp [daysOf]
        omega
      have h5 := sameI_D ds ds hdl
      rw [show decide (ds = ds) = true by simp] at h5
      simp only [Rcd.row] at h1 h2 h3 h4
      have h0 : (lv == lv) = true := by simp
      (repeat' (first | (refine dw_seq ?_) | (refine dw_block ?_) | ((first | (refine dw_reg (N := 49) rfl (by kernel_rfl) ?_) | (apply dw_drw (id := 4) (N := 49) [(0, .light), (1, .light), (2, .light), (3, .light), (4, .light), (5, .light), (6, .light), (7, .light), (8, .light), (9, .light), (10, .light), (11, .step), (12, .light), (13, .light), (14, .light), (15, .light), (16, .light), (17, .light), (18, .light), (19, .light), (20, .light), (21, .step), (22, .step), (23, .light), (24, .light), (25, .step), (26, .light), (27, .light)]; kernel_rfl; rfl; kernel_rfl; (repeat (first | exact Picks.nil | (apply Picks.cons; rfl)))) | (refine dw_skip ?_) | (refine dw_exit ?_) | (refine CallC.mk (right_D a.ps a.xs) (LeL.of_eq rfl) ?_) | (refine CallC.light (right_D a.ps a.xs) (LeL.of_eq rfl) ?_) | (refine CallC.mk (awake_D) (LeL.of_eq rfl) ?_) | (refine CallC.light (awake_D) (LeL.of_eq rfl) ?_) | (refine CallC.mk (h1) (LeL.of_eq rfl) ?_) | (refine CallC.light (h1) (LeL.of_eq rfl) ?_) | (refine CallC.mk (h2) (LeL.of_eq rfl) ?_) | (refine CallC.light (h2) (LeL.of_eq rfl) ?_) | (refine CallC.mk (h3) (LeL.of_eq rfl) ?_) | (refine CallC.light (h3) (LeL.of_eq rfl) ?_) | (refine CallC.mk (h4) (LeL.of_eq rfl) ?_) | (refine CallC.light (h4) (LeL.of_eq rfl) ?_) | (refine CallC.mk (h5) (LeL.of_eq rfl) ?_) | (refine CallC.light (h5) (LeL.of_eq rfl) ?_) | (refine dw_ret ?_)); simp (decide := true) only [go_sem, reduceIte, reduceCtorEq, Nat.reduceEqDiff, Nat.reduceAdd, Nat.reduceMul, Nat.reduceSub, Nat.reduceLeDiff, Nat.reduceBEq, hf, hs, AskT.row, h0]) | (apply dw_cond; (simp (decide := true) only [go_sem, reduceIte, reduceCtorEq, Nat.reduceEqDiff, Nat.reduceAdd, Nat.reduceMul, Nat.reduceSub, Nat.reduceLeDiff, Nat.reduceBEq, hf, hs, AskT.row, h0]; rfl); all_goals (intro hcnd; first | (exact absurd hcnd (by decide)) | skip)) | ((first | refine guardC_f ?_ ?_ | refine guardC_t ?_ ?_) <;> (intro hcnd; simp (decide := true) only [go_sem, reduceIte, reduceCtorEq, Nat.reduceEqDiff, Nat.reduceAdd, Nat.reduceMul, Nat.reduceSub, Nat.reduceLeDiff, Nat.reduceBEq, hcnd, hf, hs, AskT.row, h0]))))
    · (repeat' (first | (refine dw_seq ?_) | (refine dw_block ?_) | ((first | (refine dw_reg (N := 49) rfl (by kernel_rfl) ?_) | (apply dw_drw (id := 4) (N := 49) [(0, .light), (1, .light), (2, .light), (3, .light), (4, .light), (5, .light), (6, .light), (7, .light), (8, .light), (9, .light), (10, .light), (11, .step), (12, .light), (13, .light), (14, .light), (15, .light), (16, .light), (17, .light), (18, .light), (19, .light), (20, .light), (21, .step), (22, .step), (23, .light), (24, .light), (25, .step), (26, .light), (27, .light)]; kernel_rfl; rfl; kernel_rfl; (repeat (first | exact Picks.nil | (apply Picks.cons; rfl)))) | (refine dw_skip ?_) | (refine dw_exit ?_) | (refine CallC.mk (right_D a.ps a.xs) (LeL.of_eq rfl) ?_) | (refine CallC.light (right_D a.ps a.xs) (LeL.of_eq rfl) ?_) | (refine CallC.mk (awake_D) (LeL.of_eq rfl) ?_) | (refine CallC.light (awake_D) (LeL.of_eq rfl) ?_) | (refine dw_ret ?_)); simp (decide := true) only [go_sem, reduceIte, reduceCtorEq, Nat.reduceEqDiff, Nat.reduceAdd, Nat.reduceMul, Nat.reduceSub, Nat.reduceLeDiff, Nat.reduceBEq, hf, hs, AskT.row]) | (apply dw_cond; (simp (decide := true) only [go_sem, reduceIte, reduceCtorEq, Nat.reduceEqDiff, Nat.reduceAdd, Nat.reduceMul, Nat.reduceSub, Nat.reduceLeDiff, Nat.reduceBEq, hf, hs, AskT.row]; rfl); all_goals (intro hcnd; first | (exact absurd hcnd (by decide)) | skip)) | ((first | refine guardC_f ?_ ?_ | refine guardC_t ?_ ?_) <;> (intro hcnd; simp (decide := true) only [go_sem, reduceIte, reduceCtorEq, Nat.reduceEqDiff, Nat.reduceAdd, Nat.reduceMul, Nat.reduceSub, Nat.reduceLeDiff, Nat.reduceBEq, hcnd, hf, hs, AskT.row]))))

set_option maxRecDepth 10000 in
set_option maxHeartbeats 4000000 in
--F6
theorem lawGive (ps : List Pers) (xs : List Cons) (c : Cons) : DCalls Try.prog 6 [dv (.sl 3 (ps.map Pers.enc)), dv (.sl 4 (xs.map Cons.enc)), .agg (cRow c)] (dv (lb true)) := by
  refine dcalls (N := 39) (rs := [.tmp 6]) (by kernel_rfl) Try.func6 rfl rfl rfl (by simp) ?_
  cases hf : rightK ps xs
  · (repeat' (first | (refine dw_seq ?_) | (refine dw_block ?_) | ((first | (refine dw_reg (N := 39) rfl (by kernel_rfl) ?_) | (refine dw_skip ?_) | (refine dw_exit ?_) | (refine CallC.mk (right_D ps xs) (LeL.of_eq rfl) ?_) | (refine CallC.light (right_D ps xs) (LeL.of_eq rfl) ?_) | (refine CallC.mk (awake_D) (LeL.of_eq rfl) ?_) | (refine CallC.light (awake_D) (LeL.of_eq rfl) ?_) | (refine dw_ret ?_)); simp (decide := true) only [go_sem, reduceIte, reduceCtorEq, Nat.reduceEqDiff, Nat.reduceAdd, Nat.reduceMul, Nat.reduceSub, Nat.reduceLeDiff, Nat.reduceBEq, hf, cRow]) | (apply dw_cond; (simp (decide := true) only [go_sem, reduceIte, reduceCtorEq, Nat.reduceEqDiff, Nat.reduceAdd, Nat.reduceMul, Nat.reduceSub, Nat.reduceLeDiff, Nat.reduceBEq, hf, cRow]; rfl); all_goals (intro hcnd; first | (exact absurd hcnd (by decide)) | skip)) | ((first | refine guardC_f ?_ ?_ | refine guardC_t ?_ ?_) <;> (intro hcnd; simp (decide := true) only [go_sem, reduceIte, reduceCtorEq, Nat.reduceEqDiff, Nat.reduceAdd, Nat.reduceMul, Nat.reduceSub, Nat.reduceLeDiff, Nat.reduceBEq, hcnd, hf, cRow]))))
  · have hr := right_of hf
    have hl := hr.l60
    have hp := hr.p50
    have hmax : maxLen = 9223372036854775807 := rfl
    have h1 := give_D xs c (by omega)
    have h2 := rGive_D xs c (by omega)
    rw [give_eq hr.srt] at h2
    have h3 := rCheck_D ps [c] (by omega) (by simp)
    have h4 := check_D ps (giveK xs c) (by omega) (by rw [give_len]; omega)
    have h5 := sameC_D (giveK xs c) (giveK xs c) (by rw [give_len]; omega)
    rw [show decide (giveK xs c = giveK xs c) = true by simp] at h5
    have h6 : xs.length < 60 → checkK ps [c] = 0 → checkK ps (giveK xs c) = 0 := fun e1 e2 => give_right hr e1 (check_one.1 e2)
    obtain ⟨gs, hgs⟩ : ∃ gs, gs = giveK xs c := ⟨_, rfl⟩
    rw [← hgs] at h1 h2 h4 h5 h6
    simp only [cRow, List.map_cons, List.map_nil, Cons.enc] at h1 h2 h3
    cases hlt : decide ((xs.length : Int) < 60)
    · (repeat' (first | (refine dw_seq ?_) | (refine dw_block ?_) | ((first | (refine dw_reg (N := 39) rfl (by kernel_rfl) ?_) | (refine dw_skip ?_) | (refine dw_exit ?_) | (refine CallC.mk (right_D ps xs) (LeL.of_eq rfl) ?_) | (refine CallC.light (right_D ps xs) (LeL.of_eq rfl) ?_) | (refine CallC.mk (awake_D) (LeL.of_eq rfl) ?_) | (refine CallC.light (awake_D) (LeL.of_eq rfl) ?_) | (refine CallC.mk (h1) (LeL.of_eq rfl) ?_) | (refine CallC.light (h1) (LeL.of_eq rfl) ?_) | (refine CallC.mk (h2) (LeL.of_eq rfl) ?_) | (refine CallC.light (h2) (LeL.of_eq rfl) ?_) | (refine CallC.mk (h3) (LeL.of_eq rfl) ?_) | (refine CallC.light (h3) (LeL.of_eq rfl) ?_) | (refine CallC.mk (h4) (LeL.of_eq rfl) ?_) | (refine CallC.light (h4) (LeL.of_eq rfl) ?_) | (refine CallC.mk (h5) (LeL.of_eq rfl) ?_) | (refine CallC.light (h5) (LeL.of_eq rfl) ?_) | (refine dw_ret ?_)); simp (decide := true) only [go_sem, reduceIte, reduceCtorEq, Nat.reduceEqDiff, Nat.reduceAdd, Nat.reduceMul, Nat.reduceSub, Nat.reduceLeDiff, Nat.reduceBEq, hf, hlt, cRow]) | (apply dw_cond; (simp (decide := true) only [go_sem, reduceIte, reduceCtorEq, Nat.reduceEqDiff, Nat.reduceAdd, Nat.reduceMul, Nat.reduceSub, Nat.reduceLeDiff, Nat.reduceBEq, hf, hlt, cRow]; rfl); all_goals (intro hcnd; first | (exact absurd hcnd (by decide)) | skip)) | ((first | refine guardC_f ?_ ?_ | refine guardC_t ?_ ?_) <;> (intro hcnd; simp (decide := true) only [go_sem, reduceIte, reduceCtorEq, Nat.reduceEqDiff, Nat.reduceAdd, Nat.reduceMul, Nat.reduceSub, Nat.reduceLeDiff, Nat.reduceBEq, hcnd, hf, hlt, cRow]))))
    · cases hc : checkK ps [c] == 0
      · (repeat' (first | (refine dw_seq ?_) | (refine dw_block ?_) | ((first | (refine dw_reg (N := 39) rfl (by kernel_rfl) ?_) | (refine dw_skip ?_) | (refine dw_exit ?_) | (refine CallC.mk (right_D ps xs) (LeL.of_eq rfl) ?_) | (refine CallC.light (right_D ps xs) (LeL.of_eq rfl) ?_) | (refine CallC.mk (awake_D) (LeL.of_eq rfl) ?_) | (refine CallC.light (awake_D) (LeL.of_eq rfl) ?_) | (refine CallC.mk (h1) (LeL.of_eq rfl) ?_) | (refine CallC.light (h1) (LeL.of_eq rfl) ?_) | (refine CallC.mk (h2) (LeL.of_eq rfl) ?_) | (refine CallC.light (h2) (LeL.of_eq rfl) ?_) | (refine CallC.mk (h3) (LeL.of_eq rfl) ?_) | (refine CallC.light (h3) (LeL.of_eq rfl) ?_) | (refine CallC.mk (h4) (LeL.of_eq rfl) ?_) | (refine CallC.light (h4) (LeL.of_eq rfl) ?_) | (refine CallC.mk (h5) (LeL.of_eq rfl) ?_) | (refine CallC.light (h5) (LeL.of_eq rfl) ?_) | (refine dw_ret ?_)); simp (decide := true) only [go_sem, reduceIte, reduceCtorEq, Nat.reduceEqDiff, Nat.reduceAdd, Nat.reduceMul, Nat.reduceSub, Nat.reduceLeDiff, Nat.reduceBEq, hf, hlt, hc, cRow]) | (apply dw_cond; (simp (decide := true) only [go_sem, reduceIte, reduceCtorEq, Nat.reduceEqDiff, Nat.reduceAdd, Nat.reduceMul, Nat.reduceSub, Nat.reduceLeDiff, Nat.reduceBEq, hf, hlt, hc, cRow]; rfl); all_goals (intro hcnd; first | (exact absurd hcnd (by decide)) | skip)) | ((first | refine guardC_f ?_ ?_ | refine guardC_t ?_ ?_) <;> (intro hcnd; simp (decide := true) only [go_sem, reduceIte, reduceCtorEq, Nat.reduceEqDiff, Nat.reduceAdd, Nat.reduceMul, Nat.reduceSub, Nat.reduceLeDiff, Nat.reduceBEq, hcnd, hf, hlt, hc, cRow]))))
      · have h7 : (checkK ps gs != 0) = false := by rw [h6 (by simp at hlt; omega) (by simpa using hc)]; rfl
        (repeat' (first | (refine dw_seq ?_) | (refine dw_block ?_) | ((first | (refine dw_reg (N := 39) rfl (by kernel_rfl) ?_) | (refine dw_skip ?_) | (refine dw_exit ?_) | (refine CallC.mk (right_D ps xs) (LeL.of_eq rfl) ?_) | (refine CallC.light (right_D ps xs) (LeL.of_eq rfl) ?_) | (refine CallC.mk (awake_D) (LeL.of_eq rfl) ?_) | (refine CallC.light (awake_D) (LeL.of_eq rfl) ?_) | (refine CallC.mk (h1) (LeL.of_eq rfl) ?_) | (refine CallC.light (h1) (LeL.of_eq rfl) ?_) | (refine CallC.mk (h2) (LeL.of_eq rfl) ?_) | (refine CallC.light (h2) (LeL.of_eq rfl) ?_) | (refine CallC.mk (h3) (LeL.of_eq rfl) ?_) | (refine CallC.light (h3) (LeL.of_eq rfl) ?_) | (refine CallC.mk (h4) (LeL.of_eq rfl) ?_) | (refine CallC.light (h4) (LeL.of_eq rfl) ?_) | (refine CallC.mk (h5) (LeL.of_eq rfl) ?_) | (refine CallC.light (h5) (LeL.of_eq rfl) ?_) | (refine dw_ret ?_)); simp (decide := true) only [go_sem, reduceIte, reduceCtorEq, Nat.reduceEqDiff, Nat.reduceAdd, Nat.reduceMul, Nat.reduceSub, Nat.reduceLeDiff, Nat.reduceBEq, hf, hlt, hc, h7, cRow]) | (apply dw_cond; (simp (decide := true) only [go_sem, reduceIte, reduceCtorEq, Nat.reduceEqDiff, Nat.reduceAdd, Nat.reduceMul, Nat.reduceSub, Nat.reduceLeDiff, Nat.reduceBEq, hf, hlt, hc, h7, cRow]; rfl); all_goals (intro hcnd; first | (exact absurd hcnd (by decide)) | skip)) | ((first | refine guardC_f ?_ ?_ | refine guardC_t ?_ ?_) <;> (intro hcnd; simp (decide := true) only [go_sem, reduceIte, reduceCtorEq, Nat.reduceEqDiff, Nat.reduceAdd, Nat.reduceMul, Nat.reduceSub, Nat.reduceLeDiff, Nat.reduceBEq, hcnd, hf, hlt, hc, h7, cRow]))))
end Go.Proofs.Ytbbocdcdidemmaa

/- Plain laws of consents (II). -/
namespace Go.Proofs.Ytbbocdcdidemmaa
open Go.Dl

/-! ### Sorted lists, each number once -/

theorem cptF_spec : ∀ (l : List Int) (p : Int), l.Pairwise (· ≤ ·) → (∀ x ∈ l, p ≤ x) →
    (cptF (some p) l).Pairwise (· < ·) ∧ (∀ x ∈ cptF (some p) l, p < x) ∧ ∀ x, x ∈ cptF (some p) l ↔ x ∈ l ∧ x ≠ p
  | [], p, _, _ => by simp [cptF]
  | x :: l, p, hs, hp => by
    obtain ⟨h1, h2⟩ := List.pairwise_cons.1 hs
    have hpx := hp x (by simp)
    obtain ⟨i1, i2, i3⟩ := cptF_spec l x h2 h1
    simp only [cptF]
    split
    · rename_i he
      injection he with he; subst he
      refine ⟨i1, i2, fun y => ?_⟩
      rw [i3]
      constructor
      · exact fun h => ⟨List.mem_cons_of_mem _ h.1, h.2⟩
      · rintro ⟨h, hn⟩
        rcases List.mem_cons.1 h with h | h
        · exact absurd h hn
        · exact ⟨h, hn⟩
    · rename_i he
      have hlt : p < x := by
        have : p ≠ x := fun e => he (by rw [e])
        omega
      refine ⟨List.pairwise_cons.2 ⟨i2, i1⟩, fun y hy => ?_, fun y => ?_⟩
      · rcases List.mem_cons.1 hy with rfl | hy
        · exact hlt
        · have := i2 y hy; omega
      · simp only [List.mem_cons, i3]
        constructor
        · rintro (rfl | ⟨h, _⟩)
          · exact ⟨.inl rfl, by omega⟩
          · have := h1 y h; exact ⟨.inr h, by omega⟩
        · rintro ⟨rfl | h, _⟩
          · exact .inl rfl
          · by_cases e : y = x
            · exact .inl e
            · exact .inr ⟨h, e⟩

theorem cpt_spec (l : List Int) (hs : l.Pairwise (· ≤ ·)) : (cpt l).Pairwise (· < ·) ∧ ∀ x, x ∈ cpt l ↔ x ∈ l := by
  cases l with
  | nil => simp [cpt, cptF]
  | cons x l =>
    obtain ⟨h1, h2⟩ := List.pairwise_cons.1 hs
    obtain ⟨i1, i2, i3⟩ := cptF_spec l x h2 h1
    have he : cpt (x :: l) = x :: cptF (some x) l := by simp [cpt, cptF]
    rw [he]
    refine ⟨List.pairwise_cons.2 ⟨i2, i1⟩, fun y => ?_⟩
    simp only [List.mem_cons, i3]
    constructor
    · rintro (h | h)
      · exact .inl h
      · exact .inr h.1
    · rintro (h | h)
      · exact .inl h
      · by_cases e : y = x
        · exact .inl e
        · exact .inr ⟨h, e⟩

theorem srt_pairwise (l : List Int) : (srt l).Pairwise (· ≤ ·) := by
  have := List.pairwise_mergeSort (le := fun x y : Int => decide (x ≤ y)) (fun a b c h1 h2 => by simp at *; omega) (fun a b => by simp; omega) l
  exact this.imp (by intro a b h; simpa using h)

theorem usort_spec (l : List Int) : (usort l).Pairwise (· < ·) ∧ ∀ x, x ∈ usort l ↔ x ∈ l := by
  obtain ⟨h1, h2⟩ := cpt_spec (srt l) (srt_pairwise l)
  exact ⟨h1, fun x => (h2 x).trans (List.mem_mergeSort)⟩

/-! ### At -/

theorem atR_append (xs ys : List Cons) (p r d : Int) : atR (xs ++ ys) p r d = ((ys.reverse.find? (hit p r d)).map (·.kind)).getD (atR xs p r d) := by
  have key : ∀ (l : List Cons) (z : Int), l.foldl (atStep p r d) z = ((l.reverse.find? (hit p r d)).map (·.kind)).getD z := by
    intro l
    induction l with
    | nil => intro z; rfl
    | cons c l ih =>
      intro z
      rw [List.foldl_cons, ih, List.reverse_cons, List.find?_append]
      cases hf : l.reverse.find? (hit p r d) with
      | none => cases hc : hit p r d c <;> simp [atStep, hc]
      | some x => simp
  rw [atR, List.foldl_append, key, atR]

theorem at_give (xs : List Cons) (c : Cons) (p r d : Int) :
    (hit p r d c = false → atK (giveK xs c) p r d = atK xs p r d) ∧ (atK (giveK xs c) p r d = atK xs p r d ∨ atK (giveK xs c) p r d = c.kind) := by
  have h := List.takeWhile_append_dropWhile (p := fun x : Cons => decide (x.day ≤ c.day)) (l := xs)
  obtain ⟨us, hus⟩ : ∃ us, us = xs.takeWhile fun x => decide (x.day ≤ c.day) := ⟨_, rfl⟩
  obtain ⟨vs, hvs⟩ : ∃ vs, vs = xs.dropWhile fun x => decide (x.day ≤ c.day) := ⟨_, rfl⟩
  rw [← hus, ← hvs] at h
  have e1 : atK xs p r d = ((vs.reverse.find? (hit p r d)).map (·.kind)).getD (atR us p r d) := by rw [← atR_eq, ← h, atR_append]
  have e2 : atK (giveK xs c) p r d = ((vs.reverse.find? (hit p r d)).map (·.kind)).getD (atR (us ++ [c]) p r d) := by
    rw [← atR_eq, giveK_eq, ← hus, ← hvs, ← atR_append, List.append_assoc]; rfl
  have e3 : atR (us ++ [c]) p r d = if hit p r d c then c.kind else atR us p r d := by simp [atR, atStep]
  rw [e1, e2, e3]
  constructor
  · intro h; rw [h]; simp
  · cases vs.reverse.find? (hit p r d) with
    | none => simp only [Option.map_none, Option.getD_none]; split <;> simp
    | some x => simp

theorem at_mem (xs : List Cons) (p r d : Int) : atK xs p r d = 0 ∨ ∃ c ∈ xs, atK xs p r d = c.kind := by
  rw [atK]
  cases h : (given xs p r).find? fun c => decide (c.day ≤ d) with
  | none => simp
  | some c =>
    right
    have := List.mem_of_find?_eq_some h
    simp only [given, List.mem_filter, List.mem_reverse] at this
    exact ⟨c, this.1, by simp⟩

theorem at_nonneg {ps : List Pers} {xs : List Cons} (h : ∀ c ∈ xs, oneErr ps 0 c = 0) (p r d : Int) : 0 ≤ atK xs p r d := by
  rcases at_mem xs p r d with e | ⟨c, hc, e⟩
  · rw [e]; omega
  · rw [e]; exact (oneErr_zero.1 (h c hc)).2.2.2.2.2.1

/-! ### Least -/

theorem least_zero {f : Int → Int} {sp : List Int} (h0 : ∀ p ∈ sp, 0 ≤ f p) (h : ∃ p ∈ sp, f p = 0) : leastF f sp = 0 := by
  have key : ∀ (l : List Int) (z : Int), 0 ≤ z → (∀ p ∈ l, 0 ≤ f p) → (z = 0 ∨ ∃ p ∈ l, f p = 0) → l.foldl (leastStep f) z = 0 := by
    intro l
    induction l with
    | nil => intro z _ _ h; simpa using h
    | cons p l ih =>
      intro z hz hn h
      rw [List.foldl_cons]
      have hp := hn p (by simp)
      refine ih _ (by unfold leastStep; split <;> omega) (fun q hq => hn q (by simp [hq])) ?_
      rcases h with h | ⟨q, hq, h⟩
      · left; unfold leastStep; split <;> omega
      · rcases List.mem_cons.1 hq with rfl | hq
        · left; unfold leastStep; split <;> omega
        · exact .inr ⟨q, hq, h⟩
  obtain ⟨p, hp, hf⟩ := h
  rw [leastF, if_neg (by intro e; rw [e] at hp; simp at hp)]
  exact key sp 2 (by omega) h0 (.inr ⟨p, hp, hf⟩)

/-! ### Withdrawals -/

def lastStep (p : Int) (z : Int) (c : Cons) : Int := if c.person == p then c.day else z
def lastP (p : Int) (xs : List Cons) : Int := xs.foldl (lastStep p) 0

theorem lastP_max {xs : List Cons} (h : (daysOf xs).Pairwise (· ≤ ·)) (p : Int) : ∀ c ∈ xs, c.person = p → c.day ≤ lastP p xs := by
  have key : ∀ (l : List Cons) (z : Int), (daysOf l).Pairwise (· ≤ ·) → (∀ c ∈ l, z ≤ c.day) → (∀ c ∈ l, c.person = p → c.day ≤ l.foldl (lastStep p) z) ∧ z ≤ l.foldl (lastStep p) z := by
    intro l
    induction l with
    | nil => intro z _ _; simp
    | cons c l ih =>
      intro z hs hz
      simp only [daysOf, List.map_cons, List.pairwise_cons] at hs
      have hcd : ∀ x ∈ l, c.day ≤ x.day := fun x hx => hs.1 x.day (List.mem_map.2 ⟨x, hx, rfl⟩)
      have hzc := hz c (by simp)
      have hz' : ∀ x ∈ l, lastStep p z c ≤ x.day := fun x hx => by
        have := hcd x hx
        unfold lastStep; split <;> omega
      obtain ⟨i1, i2⟩ := ih (lastStep p z c) hs.2 hz'
      rw [List.foldl_cons]
      refine ⟨fun x hx hp => ?_, ?_⟩
      · rcases List.mem_cons.1 hx with rfl | hx
        · have : lastStep p z x = x.day := by simp [lastStep, hp]
          omega
        · exact i1 x hx hp
      · have : z ≤ lastStep p z c := by unfold lastStep; split <;> omega
        omega
  intro c hc hp
  cases xs with
  | nil => simp at hc
  | cons x l =>
    have h' := h
    simp only [daysOf, List.map_cons, List.pairwise_cons] at h'
    rcases Int.le_total 0 x.day with h0 | h0
    · exact (key (x :: l) 0 h (fun y hy => by
        rcases List.mem_cons.1 hy with rfl | hy
        · exact h0
        · have := h'.1 y.day (List.mem_map.2 ⟨y, hy, rfl⟩); omega)).1 c hc hp
    · -- the first day is not above 0: start from the first day itself
      have hk := (key (x :: l) x.day h (fun y hy => by
        rcases List.mem_cons.1 hy with rfl | hy
        · exact Int.le_refl _
        · exact h'.1 y.day (List.mem_map.2 ⟨y, hy, rfl⟩))).1 c hc hp
      have same : ∀ (l : List Cons) (z z' : Int), (∃ y ∈ l, y.person = p) → l.foldl (lastStep p) z = l.foldl (lastStep p) z' := by
        intro l
        induction l with
        | nil => rintro z z' ⟨y, hy, _⟩; simp at hy
        | cons y l ih =>
          rintro z z' ⟨q, hq, hqp⟩
          rw [List.foldl_cons, List.foldl_cons]
          by_cases hy : y.person = p
          · simp [lastStep, hy]
          · rcases List.mem_cons.1 hq with rfl | hq
            · exact absurd hqp hy
            · exact ih _ _ ⟨q, hq, hqp⟩
      rw [lastP, same (x :: l) 0 x.day ⟨c, hc, hp⟩]; exact hk

theorem at_withdrawn {xs : List Cons} (h : (daysOf xs).Pairwise (· ≤ ·)) {p day r d : Int} (hl : lastP p xs ≤ day) (hd : day ≤ d) : atK (giveK xs ⟨p, 0, day, 0⟩) p r d = 0 := by
  have hh := List.takeWhile_append_dropWhile (p := fun x : Cons => decide (x.day ≤ day)) (l := xs)
  obtain ⟨us, hus⟩ : ∃ us, us = xs.takeWhile fun x => decide (x.day ≤ day) := ⟨_, rfl⟩
  obtain ⟨vs, hvs⟩ : ∃ vs, vs = xs.dropWhile fun x => decide (x.day ≤ day) := ⟨_, rfl⟩
  rw [← hus, ← hvs] at hh
  have e2 : atK (giveK xs ⟨p, 0, day, 0⟩) p r d = ((vs.reverse.find? (hit p r d)).map (·.kind)).getD (atR (us ++ [⟨p, 0, day, 0⟩]) p r d) := by
    rw [← atR_eq, giveK_eq]
    simp only
    rw [← hus, ← hvs, ← atR_append, List.append_assoc]; rfl
  have hn : vs.reverse.find? (hit p r d) = none := by
    rw [List.find?_eq_none]
    intro c hc hhit
    have hcv : c ∈ vs := List.mem_reverse.1 hc
    have hcx : c ∈ xs := by rw [← hh]; exact List.mem_append_right _ hcv
    have hp : c.person = p := by
      simp only [hit, fits, Bool.and_eq_true, beq_iff_eq] at hhit; exact hhit.1.1
    have h1 := lastP_max h p c hcx hp
    rw [hvs] at hcv
    have h2 := high_gt h c hcv
    omega
  rw [e2, hn]
  have : hit p r d ⟨p, 0, day, 0⟩ = true := by simp [hit, fits, hd]
  simp [atR, atStep, this]

theorem least_withdrawn {ps : List Pers} {xs : List Cons} (hr : Right ps xs) {p day d : Int} (hl : lastP p xs ≤ day) (hd : day ≤ d) (r : Rcd) (hp : p ∈ r.sp) : leastK (giveK xs ⟨p, 0, day, 0⟩) r d = 0 := by
  refine least_zero (fun q _ => ?_) ⟨p, hp, at_withdrawn hr.srt hl hd⟩
  rcases at_mem (giveK xs ⟨p, 0, day, 0⟩) q r.id d with e | ⟨c, hc, e⟩
  · rw [e]; omega
  · rw [e]
    rcases give_mem.1 hc with rfl | hc
    · exact Int.le_refl _
    · exact (oneErr_zero.1 (hr.ok c hc)).2.2.2.2.2.1

/-! ### The days on which the least turns -/

theorem at_same {xs : List Cons} {d : Int} (h : ∀ c ∈ xs, c.day ≠ d) (p r : Int) : atK xs p r d = atK xs p r (d - 1) := by
  have e : ∀ (l : List Cons) (z : Int), (∀ c ∈ l, c.day ≠ d) → l.foldl (atStep p r d) z = l.foldl (atStep p r (d - 1)) z := by
    intro l
    induction l with
    | nil => intro z _; rfl
    | cons c l ih =>
      intro z hl
      have hc := hl c (by simp)
      have : atStep p r d z c = atStep p r (d - 1) z c := by
        have : decide (c.day ≤ d) = decide (c.day ≤ d - 1) := by
          rw [decide_eq_decide]; omega
        simp [atStep, hit, this]
      rw [List.foldl_cons, List.foldl_cons, this, ih _ fun x hx => hl x (by simp [hx])]
  rw [← atR_eq, ← atR_eq, atR, atR, e xs 0 h]

theorem least_same {xs : List Cons} {d : Int} (h : ∀ c ∈ xs, c.day ≠ d) (r : Rcd) : leastK xs r d = leastK xs r (d - 1) := by
  have : (fun p => atK xs p r.id d) = fun p => atK xs p r.id (d - 1) := funext fun p => at_same h p r.id
  rw [leastK, leastK, this]

theorem least_start {ps : List Pers} {xs : List Cons} (hr : Right ps xs) (r : Rcd) {d : Int} (hd : d ≤ 0) : leastK xs r d = 0 := by
  have hat : ∀ p, atK xs p r.id d = 0 := fun p => by
    rw [atK]
    have : (given xs p r.id).find? (fun c => decide (c.day ≤ d)) = none := by
      rw [List.find?_eq_none]
      intro c hc h
      simp only [given, List.mem_filter, List.mem_reverse] at hc
      have := (oneErr_zero.1 (hr.ok c hc.1)).2.2.2.1
      simp at h; omega
    rw [this]; rfl
  by_cases h : r.sp = []
  · simp [leastK, leastF, h]
  · cases hs : r.sp with
    | nil => exact absurd hs h
    | cons p l =>
      refine least_zero (fun q _ => by rw [hat]; omega) ⟨p, by rw [hs]; simp, hat p⟩

/-- Days on which f turns: all of them, in order. -/
structure Turns (f : Int → Int) (ds : List Int) : Prop where
  up : ds.Pairwise (· < ·)
  mem : ∀ d, 1 ≤ d → d ≤ 109573 → (d ∈ ds ↔ f d ≠ f (d - 1))
  range : ∀ d ∈ ds, 1 ≤ d ∧ d ≤ 109573

theorem turns_days {ps : List Pers} {xs : List Cons} (hr : Right ps xs) (r : Rcd) : Turns (leastK xs r) (daysK xs r) := by
  obtain ⟨h1, h2⟩ := usort_spec (daysOf xs)
  have hpre : ∀ d, 1 ≤ d → d ≤ 109573 → pre d = d - 1 := fun d h1 h2 => wrap_i64 (by omega) (by omega)
  have hrange : ∀ d ∈ daysOf xs, 1 ≤ d ∧ d ≤ 109573 := fun d hd => by
    obtain ⟨c, hc, rfl⟩ := List.mem_map.1 hd
    have := oneErr_zero.1 (hr.ok c hc)
    exact ⟨this.2.2.2.1, this.2.2.2.2.1⟩
  have hr2 : ∀ d ∈ daysK xs r, 1 ≤ d ∧ d ≤ 109573 := fun d hd => hrange d ((h2 d).1 (List.mem_filter.1 hd).1)
  refine ⟨h1.filter _, fun d hd1 hd2 => ?_, hr2⟩
  simp only [daysK, List.mem_filter, chg, bne_iff_ne, ne_eq, hpre d hd1 hd2]
  constructor
  · exact fun h => h.2
  · refine fun h => ⟨(h2 d).2 ?_, h⟩
    refine Classical.byContradiction fun hn => h (least_same (fun c hc e => hn (List.mem_map.2 ⟨c, hc, e⟩)) r)

theorem Turns.const {f : Int → Int} {ds : List Int} (h : Turns f ds) {lo : Int} (h0 : 0 ≤ lo) : ∀ (n : Nat), lo + n ≤ 109573 → (∀ d, lo < d → d ≤ lo + n → d ∉ ds) → f (lo + n) = f lo
  | 0, _, _ => by simp
  | n + 1, hn, hd => by
    have ih := h.const h0 n (by omega) fun d h1 h2 => hd d h1 (by omega)
    have hnot := hd (lo + (n + 1 : Nat)) (by omega) (Int.le_refl _)
    have h2 : f (lo + ((n + 1 : Nat) : Int)) = f (lo + ((n + 1 : Nat) : Int) - 1) := Classical.byContradiction fun hne => hnot ((h.mem _ (by omega) hn).2 hne)
    rw [h2, show lo + ((n + 1 : Nat) : Int) - 1 = lo + (n : Int) by omega, ih]

theorem Turns.same {f : Int → Int} {ds : List Int} (h : Turns f ds) {lo hi : Int} (h0 : 0 ≤ lo) (h1 : lo ≤ hi) (h2 : hi ≤ 109573) (hd : ∀ d, lo < d → d ≤ hi → d ∉ ds) : f hi = f lo := by
  have := h.const h0 (hi - lo).toNat (by omega) (fun d h3 h4 => hd d h3 (by omega))
  rwa [show lo + ((hi - lo).toNat : Int) = hi by omega] at this

/-- The kind behind the first k turns. -/
def kindN (f : Int → Int) (ds : List Int) (k : Nat) : Int := ((ds.take k).getLast?.map f).getD 0

theorem up_lt {ds : List Int} (h : ds.Pairwise (· < ·)) {i j : Nat} {x y : Int} (hx : ds[i]? = some x) (hy : ds[j]? = some y) (hij : i < j) : x < y := by
  obtain ⟨hi, rfl⟩ := List.getElem?_eq_some_iff.1 hx
  obtain ⟨hj, rfl⟩ := List.getElem?_eq_some_iff.1 hy
  exact List.pairwise_iff_getElem.1 h i j hi hj hij

theorem kindN_succ {f : Int → Int} {ds : List Int} {k : Nat} {d : Int} (h : ds[k]? = some d) : kindN f ds (k + 1) = f d := by
  rw [kindN, take_snoc h, List.getLast?_concat]; rfl

theorem Turns.before {f : Int → Int} {ds : List Int} (h : Turns f ds) (hs : f 0 = 0) {k : Nat} {d : Int} (hd : ds[k]? = some d) : f (d - 1) = kindN f ds k := by
  have hr := h.range d (List.mem_of_getElem? hd)
  have idx : ∀ x ∈ ds, ∃ i, ds[i]? = some x := fun x hx => List.mem_iff_getElem?.1 hx
  cases k with
  | zero =>
    have : f (d - 1) = f 0 := h.same (Int.le_refl _) (by omega) (by omega) fun x h1 h2 hx => by
      obtain ⟨i, hi⟩ := idx x hx
      rcases Nat.eq_zero_or_pos i with rfl | h3
      · rw [hd] at hi; injection hi with hi; omega
      · have := up_lt h.up hd hi h3; omega
    rw [this, hs]; rfl
  | succ k =>
    have hkl : k < ds.length := by have := (List.getElem?_eq_some_iff.1 hd).1; omega
    have he : ds[k]? = some ds[k] := List.getElem?_eq_getElem hkl
    rw [kindN_succ he]
    have hr2 := h.range ds[k] (List.getElem_mem hkl)
    have hlt := up_lt h.up he hd (by omega)
    refine h.same (by omega) (by omega) (by omega) fun x h1 h2 hx => ?_
    obtain ⟨i, hi⟩ := idx x hx
    rcases Nat.lt_or_ge k i with h3 | h3
    · rcases Nat.lt_or_ge (k + 1) i with h4 | h4
      · have := up_lt h.up hd hi h4; omega
      · obtain rfl : i = k + 1 := by omega
        rw [hd] at hi; injection hi with hi; omega
    · rcases Nat.lt_or_ge i k with h4 | h4
      · have := up_lt h.up hi he h4; omega
      · obtain rfl : i = k := by omega
        rw [he] at hi; injection hi with hi; omega

theorem Turns.last {f : Int → Int} {ds : List Int} (h : Turns f ds) (hs : f 0 = 0) : f 109573 = kindN f ds ds.length := by
  have idx : ∀ x ∈ ds, ∃ i, ds[i]? = some x := fun x hx => List.mem_iff_getElem?.1 hx
  cases hl : ds.length with
  | zero =>
    have : ds = [] := List.length_eq_zero_iff.1 hl
    have e : f 109573 = f 0 := h.same (Int.le_refl _) (by omega) (Int.le_refl _) fun x _ _ hx => by rw [this] at hx; simp at hx
    rw [e, hs]; rfl
  | succ k =>
    have hkl : k < ds.length := by omega
    have he : ds[k]? = some ds[k] := List.getElem?_eq_getElem hkl
    rw [kindN_succ he]
    have hr2 := h.range ds[k] (List.getElem_mem hkl)
    refine h.same (by omega) (by omega) (Int.le_refl _) fun x h1 h2 hx => ?_
    obtain ⟨i, hi⟩ := idx x hx
    have hil := (List.getElem?_eq_some_iff.1 hi).1
    rcases Nat.lt_or_ge i k with h4 | h4
    · have := up_lt h.up hi he h4; omega
    · obtain rfl : i = k := by omega
      rw [he] at hi; injection hi with hi; omega
end Go.Proofs.Ytbbocdcdidemmaa

/- Consents: the laws (II). -/
namespace Go.Proofs.Ytbbocdcdidemmaa
open Go.Dl
attribute [local irreducible] DW DCalls ECalls wk IW

set_option maxRecDepth 10000 in
set_option maxHeartbeats 4000000 in
--F7
theorem lawLater (a : AskT) (c : Cons) : DCalls Try.prog 7 [.agg a.row, .agg (cRow c)] (dv (lb true)) := by
  refine dcalls (N := 90) (rs := [.tmp 4]) (by kernel_rfl) Try.func7 rfl rfl rfl (by simp) ?_
  cases hf : rightK a.ps a.xs
  · (repeat' (first | (refine dw_seq ?_) | (refine dw_block ?_) | ((first | (refine dw_reg (N := 90) rfl (by kernel_rfl) ?_) | (apply dw_drw (id := 4) (N := 90) [(0, .light), (1, .light), (2, .light), (3, .light), (4, .light), (5, .light), (6, .light), (7, .light), (8, .light), (9, .light), (10, .step), (11, .light)]; kernel_rfl; rfl; kernel_rfl; (repeat (first | exact Picks.nil | (apply Picks.cons; rfl)))) | (refine dw_skip ?_) | (refine dw_exit ?_) | (refine CallC.mk (right_D a.ps a.xs) (LeL.of_eq rfl) ?_) | (refine CallC.light (right_D a.ps a.xs) (LeL.of_eq rfl) ?_) | (refine CallC.mk (awake_D) (LeL.of_eq rfl) ?_) | (refine CallC.light (awake_D) (LeL.of_eq rfl) ?_) | (refine dw_ret ?_)); simp (decide := true) only [go_sem, reduceIte, reduceCtorEq, Nat.reduceEqDiff, Nat.reduceAdd, Nat.reduceMul, Nat.reduceSub, Nat.reduceLeDiff, Nat.reduceBEq, hf, AskT.row, cRow]) | (apply dw_cond; (simp (decide := true) only [go_sem, reduceIte, reduceCtorEq, Nat.reduceEqDiff, Nat.reduceAdd, Nat.reduceMul, Nat.reduceSub, Nat.reduceLeDiff, Nat.reduceBEq, hf, AskT.row, cRow]; rfl); all_goals (intro hcnd; first | (exact absurd hcnd (by decide)) | skip)) | ((first | refine guardC_f ?_ ?_ | refine guardC_t ?_ ?_) <;> (intro hcnd; simp (decide := true) only [go_sem, reduceIte, reduceCtorEq, Nat.reduceEqDiff, Nat.reduceAdd, Nat.reduceMul, Nat.reduceSub, Nat.reduceLeDiff, Nat.reduceBEq, hcnd, hf, AskT.row, cRow]))))
  have hr := right_of hf
  have hl := hr.l60
  have hp := hr.p50
  have hmax : maxLen = 9223372036854775807 := rfl
  have h3 := rCheck_D a.ps [c] (by omega) (by simp)
  simp only [cRow, List.map_cons, List.map_nil, Cons.enc] at h3
  rcases Bool.eq_false_or_eq_true (decide ((60 : Int) ≤ (a.xs.length : Int))) with hlt | hlt
  · (repeat' (first | (refine dw_seq ?_) | (refine dw_block ?_) | ((first | (refine dw_reg (N := 90) rfl (by kernel_rfl) ?_) | (apply dw_drw (id := 4) (N := 90) [(0, .light), (1, .light), (2, .light), (3, .light), (4, .light), (5, .light), (6, .light), (7, .light), (8, .light), (9, .light), (10, .step), (11, .light)]; kernel_rfl; rfl; kernel_rfl; (repeat (first | exact Picks.nil | (apply Picks.cons; rfl)))) | (refine dw_skip ?_) | (refine dw_exit ?_) | (refine CallC.mk (right_D a.ps a.xs) (LeL.of_eq rfl) ?_) | (refine CallC.light (right_D a.ps a.xs) (LeL.of_eq rfl) ?_) | (refine CallC.mk (awake_D) (LeL.of_eq rfl) ?_) | (refine CallC.light (awake_D) (LeL.of_eq rfl) ?_) | (refine dw_ret ?_)); simp (decide := true) only [go_sem, reduceIte, reduceCtorEq, Nat.reduceEqDiff, Nat.reduceAdd, Nat.reduceMul, Nat.reduceSub, Nat.reduceLeDiff, Nat.reduceBEq, hf, hlt, AskT.row, cRow]) | (apply dw_cond; (simp (decide := true) only [go_sem, reduceIte, reduceCtorEq, Nat.reduceEqDiff, Nat.reduceAdd, Nat.reduceMul, Nat.reduceSub, Nat.reduceLeDiff, Nat.reduceBEq, hf, hlt, AskT.row, cRow]; rfl); all_goals (intro hcnd; first | (exact absurd hcnd (by decide)) | skip)) | ((first | refine guardC_f ?_ ?_ | refine guardC_t ?_ ?_) <;> (intro hcnd; simp (decide := true) only [go_sem, reduceIte, reduceCtorEq, Nat.reduceEqDiff, Nat.reduceAdd, Nat.reduceMul, Nat.reduceSub, Nat.reduceLeDiff, Nat.reduceBEq, hcnd, hf, hlt, AskT.row, cRow]))))
  rcases Bool.eq_false_or_eq_true (checkK a.ps [c] != 0) with hc | hc
  · (repeat' (first | (refine dw_seq ?_) | (refine dw_block ?_) | ((first | (refine dw_reg (N := 90) rfl (by kernel_rfl) ?_) | (apply dw_drw (id := 4) (N := 90) [(0, .light), (1, .light), (2, .light), (3, .light), (4, .light), (5, .light), (6, .light), (7, .light), (8, .light), (9, .light), (10, .step), (11, .light)]; kernel_rfl; rfl; kernel_rfl; (repeat (first | exact Picks.nil | (apply Picks.cons; rfl)))) | (refine dw_skip ?_) | (refine dw_exit ?_) | (refine CallC.mk (right_D a.ps a.xs) (LeL.of_eq rfl) ?_) | (refine CallC.light (right_D a.ps a.xs) (LeL.of_eq rfl) ?_) | (refine CallC.mk (awake_D) (LeL.of_eq rfl) ?_) | (refine CallC.light (awake_D) (LeL.of_eq rfl) ?_) | (refine CallC.mk (h3) (LeL.of_eq rfl) ?_) | (refine CallC.light (h3) (LeL.of_eq rfl) ?_) | (refine dw_ret ?_)); simp (decide := true) only [go_sem, reduceIte, reduceCtorEq, Nat.reduceEqDiff, Nat.reduceAdd, Nat.reduceMul, Nat.reduceSub, Nat.reduceLeDiff, Nat.reduceBEq, hf, hlt, hc, AskT.row, cRow]) | (apply dw_cond; (simp (decide := true) only [go_sem, reduceIte, reduceCtorEq, Nat.reduceEqDiff, Nat.reduceAdd, Nat.reduceMul, Nat.reduceSub, Nat.reduceLeDiff, Nat.reduceBEq, hf, hlt, hc, AskT.row, cRow]; rfl); all_goals (intro hcnd; first | (exact absurd hcnd (by decide)) | skip)) | ((first | refine guardC_f ?_ ?_ | refine guardC_t ?_ ?_) <;> (intro hcnd; simp (decide := true) only [go_sem, reduceIte, reduceCtorEq, Nat.reduceEqDiff, Nat.reduceAdd, Nat.reduceMul, Nat.reduceSub, Nat.reduceLeDiff, Nat.reduceBEq, hcnd, hf, hlt, hc, AskT.row, cRow]))))
  have h1 := give_D a.xs c (by omega)
  obtain ⟨g1, g2⟩ := at_give a.xs c a.person a.rcd a.day
  have h4 := at_D a.xs a.person a.rcd a.day (by omega)
  have h5 := at_D (giveK a.xs c) a.person a.rcd a.day (by rw [give_len]; omega)
  obtain ⟨gs, hgs⟩ : ∃ gs, gs = giveK a.xs c := ⟨_, rfl⟩
  rw [← hgs] at h1 h5 g1 g2
  obtain ⟨B, hB⟩ : ∃ B, B = atK a.xs a.person a.rcd a.day := ⟨_, rfl⟩
  obtain ⟨A, hA⟩ : ∃ A, A = atK gs a.person a.rcd a.day := ⟨_, rfl⟩
  rw [← hB] at h4 g1 g2
  rw [← hA] at h5 g1 g2
  simp only [cRow] at h1
  cases hh : hit a.person a.rcd a.day c
  · have hBA : (B == A) = true := by rw [g1 hh]; simp
    rcases Bool.eq_false_or_eq_true (decide (a.day < c.day)) with t1 | t1
    · (repeat' (first | (refine dw_seq ?_) | (refine dw_block ?_) | ((first | (refine dw_reg (N := 90) rfl (by kernel_rfl) ?_) | (apply dw_drw (id := 4) (N := 90) [(0, .light), (1, .light), (2, .light), (3, .light), (4, .light), (5, .light), (6, .light), (7, .light), (8, .light), (9, .light), (10, .step), (11, .light)]; kernel_rfl; rfl; kernel_rfl; (repeat (first | exact Picks.nil | (apply Picks.cons; rfl)))) | (refine dw_skip ?_) | (refine dw_exit ?_) | (refine CallC.mk (right_D a.ps a.xs) (LeL.of_eq rfl) ?_) | (refine CallC.light (right_D a.ps a.xs) (LeL.of_eq rfl) ?_) | (refine CallC.mk (awake_D) (LeL.of_eq rfl) ?_) | (refine CallC.light (awake_D) (LeL.of_eq rfl) ?_) | (refine CallC.mk (h1) (LeL.of_eq rfl) ?_) | (refine CallC.light (h1) (LeL.of_eq rfl) ?_) | (refine CallC.mk (h3) (LeL.of_eq rfl) ?_) | (refine CallC.light (h3) (LeL.of_eq rfl) ?_) | (refine CallC.mk (h4) (LeL.of_eq rfl) ?_) | (refine CallC.light (h4) (LeL.of_eq rfl) ?_) | (refine CallC.mk (h5) (LeL.of_eq rfl) ?_) | (refine CallC.light (h5) (LeL.of_eq rfl) ?_) | (refine dw_ret ?_)); simp (decide := true) only [go_sem, reduceIte, reduceCtorEq, Nat.reduceEqDiff, Nat.reduceAdd, Nat.reduceMul, Nat.reduceSub, Nat.reduceLeDiff, Nat.reduceBEq, hf, hlt, hc, hBA, t1, AskT.row, cRow]) | (apply dw_cond; (simp (decide := true) only [go_sem, reduceIte, reduceCtorEq, Nat.reduceEqDiff, Nat.reduceAdd, Nat.reduceMul, Nat.reduceSub, Nat.reduceLeDiff, Nat.reduceBEq, hf, hlt, hc, hBA, t1, AskT.row, cRow]; rfl); all_goals (intro hcnd; first | (exact absurd hcnd (by decide)) | skip)) | ((first | refine guardC_f ?_ ?_ | refine guardC_t ?_ ?_) <;> (intro hcnd; simp (decide := true) only [go_sem, reduceIte, reduceCtorEq, Nat.reduceEqDiff, Nat.reduceAdd, Nat.reduceMul, Nat.reduceSub, Nat.reduceLeDiff, Nat.reduceBEq, hcnd, hf, hlt, hc, hBA, t1, AskT.row, cRow]))))
    rcases Bool.eq_false_or_eq_true (a.person != c.person) with t2 | t2
    · (repeat' (first | (refine dw_seq ?_) | (refine dw_block ?_) | ((first | (refine dw_reg (N := 90) rfl (by kernel_rfl) ?_) | (apply dw_drw (id := 4) (N := 90) [(0, .light), (1, .light), (2, .light), (3, .light), (4, .light), (5, .light), (6, .light), (7, .light), (8, .light), (9, .light), (10, .step), (11, .light)]; kernel_rfl; rfl; kernel_rfl; (repeat (first | exact Picks.nil | (apply Picks.cons; rfl)))) | (refine dw_skip ?_) | (refine dw_exit ?_) | (refine CallC.mk (right_D a.ps a.xs) (LeL.of_eq rfl) ?_) | (refine CallC.light (right_D a.ps a.xs) (LeL.of_eq rfl) ?_) | (refine CallC.mk (awake_D) (LeL.of_eq rfl) ?_) | (refine CallC.light (awake_D) (LeL.of_eq rfl) ?_) | (refine CallC.mk (h1) (LeL.of_eq rfl) ?_) | (refine CallC.light (h1) (LeL.of_eq rfl) ?_) | (refine CallC.mk (h3) (LeL.of_eq rfl) ?_) | (refine CallC.light (h3) (LeL.of_eq rfl) ?_) | (refine CallC.mk (h4) (LeL.of_eq rfl) ?_) | (refine CallC.light (h4) (LeL.of_eq rfl) ?_) | (refine CallC.mk (h5) (LeL.of_eq rfl) ?_) | (refine CallC.light (h5) (LeL.of_eq rfl) ?_) | (refine dw_ret ?_)); simp (decide := true) only [go_sem, reduceIte, reduceCtorEq, Nat.reduceEqDiff, Nat.reduceAdd, Nat.reduceMul, Nat.reduceSub, Nat.reduceLeDiff, Nat.reduceBEq, hf, hlt, hc, hBA, t1, t2, AskT.row, cRow]) | (apply dw_cond; (simp (decide := true) only [go_sem, reduceIte, reduceCtorEq, Nat.reduceEqDiff, Nat.reduceAdd, Nat.reduceMul, Nat.reduceSub, Nat.reduceLeDiff, Nat.reduceBEq, hf, hlt, hc, hBA, t1, t2, AskT.row, cRow]; rfl); all_goals (intro hcnd; first | (exact absurd hcnd (by decide)) | skip)) | ((first | refine guardC_f ?_ ?_ | refine guardC_t ?_ ?_) <;> (intro hcnd; simp (decide := true) only [go_sem, reduceIte, reduceCtorEq, Nat.reduceEqDiff, Nat.reduceAdd, Nat.reduceMul, Nat.reduceSub, Nat.reduceLeDiff, Nat.reduceBEq, hcnd, hf, hlt, hc, hBA, t1, t2, AskT.row, cRow]))))
    rcases Bool.eq_false_or_eq_true (c.rcd != 0) with t5 | t5
    · rcases Bool.eq_false_or_eq_true (c.rcd != a.rcd) with t6 | t6
      · (repeat' (first | (refine dw_seq ?_) | (refine dw_block ?_) | ((first | (refine dw_reg (N := 90) rfl (by kernel_rfl) ?_) | (apply dw_drw (id := 4) (N := 90) [(0, .light), (1, .light), (2, .light), (3, .light), (4, .light), (5, .light), (6, .light), (7, .light), (8, .light), (9, .light), (10, .step), (11, .light)]; kernel_rfl; rfl; kernel_rfl; (repeat (first | exact Picks.nil | (apply Picks.cons; rfl)))) | (refine dw_skip ?_) | (refine dw_exit ?_) | (refine CallC.mk (right_D a.ps a.xs) (LeL.of_eq rfl) ?_) | (refine CallC.light (right_D a.ps a.xs) (LeL.of_eq rfl) ?_) | (refine CallC.mk (awake_D) (LeL.of_eq rfl) ?_) | (refine CallC.light (awake_D) (LeL.of_eq rfl) ?_) | (refine CallC.mk (h1) (LeL.of_eq rfl) ?_) | (refine CallC.light (h1) (LeL.of_eq rfl) ?_) | (refine CallC.mk (h3) (LeL.of_eq rfl) ?_) | (refine CallC.light (h3) (LeL.of_eq rfl) ?_) | (refine CallC.mk (h4) (LeL.of_eq rfl) ?_) | (refine CallC.light (h4) (LeL.of_eq rfl) ?_) | (refine CallC.mk (h5) (LeL.of_eq rfl) ?_) | (refine CallC.light (h5) (LeL.of_eq rfl) ?_) | (refine dw_ret ?_)); simp (decide := true) only [go_sem, reduceIte, reduceCtorEq, Nat.reduceEqDiff, Nat.reduceAdd, Nat.reduceMul, Nat.reduceSub, Nat.reduceLeDiff, Nat.reduceBEq, hf, hlt, hc, hBA, t1, t2, t5, t6, AskT.row, cRow]) | (apply dw_cond; (simp (decide := true) only [go_sem, reduceIte, reduceCtorEq, Nat.reduceEqDiff, Nat.reduceAdd, Nat.reduceMul, Nat.reduceSub, Nat.reduceLeDiff, Nat.reduceBEq, hf, hlt, hc, hBA, t1, t2, t5, t6, AskT.row, cRow]; rfl); all_goals (intro hcnd; first | (exact absurd hcnd (by decide)) | skip)) | ((first | refine guardC_f ?_ ?_ | refine guardC_t ?_ ?_) <;> (intro hcnd; simp (decide := true) only [go_sem, reduceIte, reduceCtorEq, Nat.reduceEqDiff, Nat.reduceAdd, Nat.reduceMul, Nat.reduceSub, Nat.reduceLeDiff, Nat.reduceBEq, hcnd, hf, hlt, hc, hBA, t1, t2, t5, t6, AskT.row, cRow]))))
      · (repeat' (first | (refine dw_seq ?_) | (refine dw_block ?_) | ((first | (refine dw_reg (N := 90) rfl (by kernel_rfl) ?_) | (apply dw_drw (id := 4) (N := 90) [(0, .light), (1, .light), (2, .light), (3, .light), (4, .light), (5, .light), (6, .light), (7, .light), (8, .light), (9, .light), (10, .step), (11, .light)]; kernel_rfl; rfl; kernel_rfl; (repeat (first | exact Picks.nil | (apply Picks.cons; rfl)))) | (refine dw_skip ?_) | (refine dw_exit ?_) | (refine CallC.mk (right_D a.ps a.xs) (LeL.of_eq rfl) ?_) | (refine CallC.light (right_D a.ps a.xs) (LeL.of_eq rfl) ?_) | (refine CallC.mk (awake_D) (LeL.of_eq rfl) ?_) | (refine CallC.light (awake_D) (LeL.of_eq rfl) ?_) | (refine CallC.mk (h1) (LeL.of_eq rfl) ?_) | (refine CallC.light (h1) (LeL.of_eq rfl) ?_) | (refine CallC.mk (h3) (LeL.of_eq rfl) ?_) | (refine CallC.light (h3) (LeL.of_eq rfl) ?_) | (refine CallC.mk (h4) (LeL.of_eq rfl) ?_) | (refine CallC.light (h4) (LeL.of_eq rfl) ?_) | (refine CallC.mk (h5) (LeL.of_eq rfl) ?_) | (refine CallC.light (h5) (LeL.of_eq rfl) ?_) | (refine dw_ret ?_)); simp (decide := true) only [go_sem, reduceIte, reduceCtorEq, Nat.reduceEqDiff, Nat.reduceAdd, Nat.reduceMul, Nat.reduceSub, Nat.reduceLeDiff, Nat.reduceBEq, hf, hlt, hc, hBA, t1, t2, t5, t6, AskT.row, cRow]) | (apply dw_cond; (simp (decide := true) only [go_sem, reduceIte, reduceCtorEq, Nat.reduceEqDiff, Nat.reduceAdd, Nat.reduceMul, Nat.reduceSub, Nat.reduceLeDiff, Nat.reduceBEq, hf, hlt, hc, hBA, t1, t2, t5, t6, AskT.row, cRow]; rfl); all_goals (intro hcnd; first | (exact absurd hcnd (by decide)) | skip)) | ((first | refine guardC_f ?_ ?_ | refine guardC_t ?_ ?_) <;> (intro hcnd; simp (decide := true) only [go_sem, reduceIte, reduceCtorEq, Nat.reduceEqDiff, Nat.reduceAdd, Nat.reduceMul, Nat.reduceSub, Nat.reduceLeDiff, Nat.reduceBEq, hcnd, hf, hlt, hc, hBA, t1, t2, t5, t6, AskT.row, cRow]))))
    · (repeat' (first | (refine dw_seq ?_) | (refine dw_block ?_) | ((first | (refine dw_reg (N := 90) rfl (by kernel_rfl) ?_) | (apply dw_drw (id := 4) (N := 90) [(0, .light), (1, .light), (2, .light), (3, .light), (4, .light), (5, .light), (6, .light), (7, .light), (8, .light), (9, .light), (10, .step), (11, .light)]; kernel_rfl; rfl; kernel_rfl; (repeat (first | exact Picks.nil | (apply Picks.cons; rfl)))) | (refine dw_skip ?_) | (refine dw_exit ?_) | (refine CallC.mk (right_D a.ps a.xs) (LeL.of_eq rfl) ?_) | (refine CallC.light (right_D a.ps a.xs) (LeL.of_eq rfl) ?_) | (refine CallC.mk (awake_D) (LeL.of_eq rfl) ?_) | (refine CallC.light (awake_D) (LeL.of_eq rfl) ?_) | (refine CallC.mk (h1) (LeL.of_eq rfl) ?_) | (refine CallC.light (h1) (LeL.of_eq rfl) ?_) | (refine CallC.mk (h3) (LeL.of_eq rfl) ?_) | (refine CallC.light (h3) (LeL.of_eq rfl) ?_) | (refine CallC.mk (h4) (LeL.of_eq rfl) ?_) | (refine CallC.light (h4) (LeL.of_eq rfl) ?_) | (refine CallC.mk (h5) (LeL.of_eq rfl) ?_) | (refine CallC.light (h5) (LeL.of_eq rfl) ?_) | (refine dw_ret ?_)); simp (decide := true) only [go_sem, reduceIte, reduceCtorEq, Nat.reduceEqDiff, Nat.reduceAdd, Nat.reduceMul, Nat.reduceSub, Nat.reduceLeDiff, Nat.reduceBEq, hf, hlt, hc, hBA, t1, t2, t5, AskT.row, cRow]) | (apply dw_cond; (simp (decide := true) only [go_sem, reduceIte, reduceCtorEq, Nat.reduceEqDiff, Nat.reduceAdd, Nat.reduceMul, Nat.reduceSub, Nat.reduceLeDiff, Nat.reduceBEq, hf, hlt, hc, hBA, t1, t2, t5, AskT.row, cRow]; rfl); all_goals (intro hcnd; first | (exact absurd hcnd (by decide)) | skip)) | ((first | refine guardC_f ?_ ?_ | refine guardC_t ?_ ?_) <;> (intro hcnd; simp (decide := true) only [go_sem, reduceIte, reduceCtorEq, Nat.reduceEqDiff, Nat.reduceAdd, Nat.reduceMul, Nat.reduceSub, Nat.reduceLeDiff, Nat.reduceBEq, hcnd, hf, hlt, hc, hBA, t1, t2, t5, AskT.row, cRow]))))
  · simp only [hit, fits, Bool.and_eq_true, beq_iff_eq, Bool.or_eq_true, decide_eq_true_eq] at hh
    obtain ⟨⟨e1, e2⟩, e3⟩ := hh
    have t1 : decide (a.day < c.day) = false := by simp; omega
    have t2 : (a.person != c.person) = false := by simp [e1]
    have t3 : (c.rcd != 0) = true → (c.rcd != a.rcd) = false := fun h => by
      rcases e2 with e | e
      · simp [e] at h
      · simp [e]
    cases hBA : B == A
    · have t4 : (A == c.kind) = true := by
        rcases g2 with e | e
        · simp [e] at hBA
        · simp [e]
      cases t5 : c.rcd != 0
      · (repeat' (first | (refine dw_seq ?_) | (refine dw_block ?_) | ((first | (refine dw_reg (N := 90) rfl (by kernel_rfl) ?_) | (apply dw_drw (id := 4) (N := 90) [(0, .light), (1, .light), (2, .light), (3, .light), (4, .light), (5, .light), (6, .light), (7, .light), (8, .light), (9, .light), (10, .step), (11, .light)]; kernel_rfl; rfl; kernel_rfl; (repeat (first | exact Picks.nil | (apply Picks.cons; rfl)))) | (refine dw_skip ?_) | (refine dw_exit ?_) | (refine CallC.mk (right_D a.ps a.xs) (LeL.of_eq rfl) ?_) | (refine CallC.light (right_D a.ps a.xs) (LeL.of_eq rfl) ?_) | (refine CallC.mk (awake_D) (LeL.of_eq rfl) ?_) | (refine CallC.light (awake_D) (LeL.of_eq rfl) ?_) | (refine CallC.mk (h1) (LeL.of_eq rfl) ?_) | (refine CallC.light (h1) (LeL.of_eq rfl) ?_) | (refine CallC.mk (h3) (LeL.of_eq rfl) ?_) | (refine CallC.light (h3) (LeL.of_eq rfl) ?_) | (refine CallC.mk (h4) (LeL.of_eq rfl) ?_) | (refine CallC.light (h4) (LeL.of_eq rfl) ?_) | (refine CallC.mk (h5) (LeL.of_eq rfl) ?_) | (refine CallC.light (h5) (LeL.of_eq rfl) ?_) | (refine dw_ret ?_)); simp (decide := true) only [go_sem, reduceIte, reduceCtorEq, Nat.reduceEqDiff, Nat.reduceAdd, Nat.reduceMul, Nat.reduceSub, Nat.reduceLeDiff, Nat.reduceBEq, hf, hlt, hc, hBA, t1, t2, t4, t5, AskT.row, cRow]) | (apply dw_cond; (simp (decide := true) only [go_sem, reduceIte, reduceCtorEq, Nat.reduceEqDiff, Nat.reduceAdd, Nat.reduceMul, Nat.reduceSub, Nat.reduceLeDiff, Nat.reduceBEq, hf, hlt, hc, hBA, t1, t2, t4, t5, AskT.row, cRow]; rfl); all_goals (intro hcnd; first | (exact absurd hcnd (by decide)) | skip)) | ((first | refine guardC_f ?_ ?_ | refine guardC_t ?_ ?_) <;> (intro hcnd; simp (decide := true) only [go_sem, reduceIte, reduceCtorEq, Nat.reduceEqDiff, Nat.reduceAdd, Nat.reduceMul, Nat.reduceSub, Nat.reduceLeDiff, Nat.reduceBEq, hcnd, hf, hlt, hc, hBA, t1, t2, t4, t5, AskT.row, cRow]))))
      · have t6 := t3 t5
        (repeat' (first | (refine dw_seq ?_) | (refine dw_block ?_) | ((first | (refine dw_reg (N := 90) rfl (by kernel_rfl) ?_) | (apply dw_drw (id := 4) (N := 90) [(0, .light), (1, .light), (2, .light), (3, .light), (4, .light), (5, .light), (6, .light), (7, .light), (8, .light), (9, .light), (10, .step), (11, .light)]; kernel_rfl; rfl; kernel_rfl; (repeat (first | exact Picks.nil | (apply Picks.cons; rfl)))) | (refine dw_skip ?_) | (refine dw_exit ?_) | (refine CallC.mk (right_D a.ps a.xs) (LeL.of_eq rfl) ?_) | (refine CallC.light (right_D a.ps a.xs) (LeL.of_eq rfl) ?_) | (refine CallC.mk (awake_D) (LeL.of_eq rfl) ?_) | (refine CallC.light (awake_D) (LeL.of_eq rfl) ?_) | (refine CallC.mk (h1) (LeL.of_eq rfl) ?_) | (refine CallC.light (h1) (LeL.of_eq rfl) ?_) | (refine CallC.mk (h3) (LeL.of_eq rfl) ?_) | (refine CallC.light (h3) (LeL.of_eq rfl) ?_) | (refine CallC.mk (h4) (LeL.of_eq rfl) ?_) | (refine CallC.light (h4) (LeL.of_eq rfl) ?_) | (refine CallC.mk (h5) (LeL.of_eq rfl) ?_) | (refine CallC.light (h5) (LeL.of_eq rfl) ?_) | (refine dw_ret ?_)); simp (decide := true) only [go_sem, reduceIte, reduceCtorEq, Nat.reduceEqDiff, Nat.reduceAdd, Nat.reduceMul, Nat.reduceSub, Nat.reduceLeDiff, Nat.reduceBEq, hf, hlt, hc, hBA, t1, t2, t4, t5, t6, AskT.row, cRow]) | (apply dw_cond; (simp (decide := true) only [go_sem, reduceIte, reduceCtorEq, Nat.reduceEqDiff, Nat.reduceAdd, Nat.reduceMul, Nat.reduceSub, Nat.reduceLeDiff, Nat.reduceBEq, hf, hlt, hc, hBA, t1, t2, t4, t5, t6, AskT.row, cRow]; rfl); all_goals (intro hcnd; first | (exact absurd hcnd (by decide)) | skip)) | ((first | refine guardC_f ?_ ?_ | refine guardC_t ?_ ?_) <;> (intro hcnd; simp (decide := true) only [go_sem, reduceIte, reduceCtorEq, Nat.reduceEqDiff, Nat.reduceAdd, Nat.reduceMul, Nat.reduceSub, Nat.reduceLeDiff, Nat.reduceBEq, hcnd, hf, hlt, hc, hBA, t1, t2, t4, t5, t6, AskT.row, cRow]))))
    · cases t5 : c.rcd != 0
      · (repeat' (first | (refine dw_seq ?_) | (refine dw_block ?_) | ((first | (refine dw_reg (N := 90) rfl (by kernel_rfl) ?_) | (apply dw_drw (id := 4) (N := 90) [(0, .light), (1, .light), (2, .light), (3, .light), (4, .light), (5, .light), (6, .light), (7, .light), (8, .light), (9, .light), (10, .step), (11, .light)]; kernel_rfl; rfl; kernel_rfl; (repeat (first | exact Picks.nil | (apply Picks.cons; rfl)))) | (refine dw_skip ?_) | (refine dw_exit ?_) | (refine CallC.mk (right_D a.ps a.xs) (LeL.of_eq rfl) ?_) | (refine CallC.light (right_D a.ps a.xs) (LeL.of_eq rfl) ?_) | (refine CallC.mk (awake_D) (LeL.of_eq rfl) ?_) | (refine CallC.light (awake_D) (LeL.of_eq rfl) ?_) | (refine CallC.mk (h1) (LeL.of_eq rfl) ?_) | (refine CallC.light (h1) (LeL.of_eq rfl) ?_) | (refine CallC.mk (h3) (LeL.of_eq rfl) ?_) | (refine CallC.light (h3) (LeL.of_eq rfl) ?_) | (refine CallC.mk (h4) (LeL.of_eq rfl) ?_) | (refine CallC.light (h4) (LeL.of_eq rfl) ?_) | (refine CallC.mk (h5) (LeL.of_eq rfl) ?_) | (refine CallC.light (h5) (LeL.of_eq rfl) ?_) | (refine dw_ret ?_)); simp (decide := true) only [go_sem, reduceIte, reduceCtorEq, Nat.reduceEqDiff, Nat.reduceAdd, Nat.reduceMul, Nat.reduceSub, Nat.reduceLeDiff, Nat.reduceBEq, hf, hlt, hc, hBA, t1, t2, t5, AskT.row, cRow]) | (apply dw_cond; (simp (decide := true) only [go_sem, reduceIte, reduceCtorEq, Nat.reduceEqDiff, Nat.reduceAdd, Nat.reduceMul, Nat.reduceSub, Nat.reduceLeDiff, Nat.reduceBEq, hf, hlt, hc, hBA, t1, t2, t5, AskT.row, cRow]; rfl); all_goals (intro hcnd; first | (exact absurd hcnd (by decide)) | skip)) | ((first | refine guardC_f ?_ ?_ | refine guardC_t ?_ ?_) <;> (intro hcnd; simp (decide := true) only [go_sem, reduceIte, reduceCtorEq, Nat.reduceEqDiff, Nat.reduceAdd, Nat.reduceMul, Nat.reduceSub, Nat.reduceLeDiff, Nat.reduceBEq, hcnd, hf, hlt, hc, hBA, t1, t2, t5, AskT.row, cRow]))))
      · have t6 := t3 t5
        (repeat' (first | (refine dw_seq ?_) | (refine dw_block ?_) | ((first | (refine dw_reg (N := 90) rfl (by kernel_rfl) ?_) | (apply dw_drw (id := 4) (N := 90) [(0, .light), (1, .light), (2, .light), (3, .light), (4, .light), (5, .light), (6, .light), (7, .light), (8, .light), (9, .light), (10, .step), (11, .light)]; kernel_rfl; rfl; kernel_rfl; (repeat (first | exact Picks.nil | (apply Picks.cons; rfl)))) | (refine dw_skip ?_) | (refine dw_exit ?_) | (refine CallC.mk (right_D a.ps a.xs) (LeL.of_eq rfl) ?_) | (refine CallC.light (right_D a.ps a.xs) (LeL.of_eq rfl) ?_) | (refine CallC.mk (awake_D) (LeL.of_eq rfl) ?_) | (refine CallC.light (awake_D) (LeL.of_eq rfl) ?_) | (refine CallC.mk (h1) (LeL.of_eq rfl) ?_) | (refine CallC.light (h1) (LeL.of_eq rfl) ?_) | (refine CallC.mk (h3) (LeL.of_eq rfl) ?_) | (refine CallC.light (h3) (LeL.of_eq rfl) ?_) | (refine CallC.mk (h4) (LeL.of_eq rfl) ?_) | (refine CallC.light (h4) (LeL.of_eq rfl) ?_) | (refine CallC.mk (h5) (LeL.of_eq rfl) ?_) | (refine CallC.light (h5) (LeL.of_eq rfl) ?_) | (refine dw_ret ?_)); simp (decide := true) only [go_sem, reduceIte, reduceCtorEq, Nat.reduceEqDiff, Nat.reduceAdd, Nat.reduceMul, Nat.reduceSub, Nat.reduceLeDiff, Nat.reduceBEq, hf, hlt, hc, hBA, t1, t2, t5, t6, AskT.row, cRow]) | (apply dw_cond; (simp (decide := true) only [go_sem, reduceIte, reduceCtorEq, Nat.reduceEqDiff, Nat.reduceAdd, Nat.reduceMul, Nat.reduceSub, Nat.reduceLeDiff, Nat.reduceBEq, hf, hlt, hc, hBA, t1, t2, t5, t6, AskT.row, cRow]; rfl); all_goals (intro hcnd; first | (exact absurd hcnd (by decide)) | skip)) | ((first | refine guardC_f ?_ ?_ | refine guardC_t ?_ ?_) <;> (intro hcnd; simp (decide := true) only [go_sem, reduceIte, reduceCtorEq, Nat.reduceEqDiff, Nat.reduceAdd, Nat.reduceMul, Nat.reduceSub, Nat.reduceLeDiff, Nat.reduceBEq, hcnd, hf, hlt, hc, hBA, t1, t2, t5, t6, AskT.row, cRow]))))
end Go.Proofs.Ytbbocdcdidemmaa

/- Consents: the laws (III). -/
namespace Go.Proofs.Ytbbocdcdidemmaa
open Go.Dl
attribute [local irreducible] DW DCalls ECalls wk IW

set_option maxRecDepth 10000 in
set_option maxHeartbeats 4000000 in
--F8
theorem lawWithdrawn (a : AskT) (sp : List Int) : DCalls Try.prog 8 [.agg a.row, dv (.sl 1 (ints sp))] (dv (lb true)) := by
  refine dcalls (N := 123) (rs := [.tmp 4]) (by kernel_rfl) Try.func8 rfl rfl rfl (by simp) ?_
  cases hf : rightK a.ps a.xs
  · (repeat' (first | (refine dw_seq ?_) | (refine dw_block ?_) | ((first | (refine dw_reg (N := 123) rfl (by kernel_rfl) ?_) | (apply dw_drw (id := 8) (N := 123) [(0, .light), (1, .light), (2, .light), (3, .light), (4, .light), (5, .light), (6, .light), (7, .light), (8, .light)]; kernel_rfl; rfl; kernel_rfl; (repeat (first | exact Picks.nil | (apply Picks.cons; rfl)))) | (refine dw_skip ?_) | (refine dw_exit ?_) | (refine CallC.mk (right_D a.ps a.xs) (LeL.of_eq rfl) ?_) | (refine CallC.light (right_D a.ps a.xs) (LeL.of_eq rfl) ?_) | (refine CallC.mk (awake_D) (LeL.of_eq rfl) ?_) | (refine CallC.light (awake_D) (LeL.of_eq rfl) ?_) | (refine dw_ret ?_)); simp (decide := true) only [go_sem, reduceIte, reduceCtorEq, Nat.reduceEqDiff, Nat.reduceAdd, Nat.reduceMul, Nat.reduceSub, Nat.reduceLeDiff, Nat.reduceBEq, hf, AskT.row]) | (apply dw_cond; (simp (decide := true) only [go_sem, reduceIte, reduceCtorEq, Nat.reduceEqDiff, Nat.reduceAdd, Nat.reduceMul, Nat.reduceSub, Nat.reduceLeDiff, Nat.reduceBEq, hf, AskT.row]; rfl); all_goals (intro hcnd; first | (exact absurd hcnd (by decide)) | skip)) | ((first | refine guardC_f ?_ ?_ | refine guardC_t ?_ ?_) <;> (intro hcnd; simp (decide := true) only [go_sem, reduceIte, reduceCtorEq, Nat.reduceEqDiff, Nat.reduceAdd, Nat.reduceMul, Nat.reduceSub, Nat.reduceLeDiff, Nat.reduceBEq, hcnd, hf, AskT.row]))))
  have hr := right_of hf
  have hl := hr.l60
  have hp := hr.p50
  have hmax : maxLen = 9223372036854775807 := rfl
  rcases Bool.eq_false_or_eq_true (decide ((60 : Int) ≤ (a.xs.length : Int))) with t1 | t1
  · (repeat' (first | (refine dw_seq ?_) | (refine dw_block ?_) | ((first | (refine dw_reg (N := 123) rfl (by kernel_rfl) ?_) | (apply dw_drw (id := 8) (N := 123) [(0, .light), (1, .light), (2, .light), (3, .light), (4, .light), (5, .light), (6, .light), (7, .light), (8, .light)]; kernel_rfl; rfl; kernel_rfl; (repeat (first | exact Picks.nil | (apply Picks.cons; rfl)))) | (refine dw_skip ?_) | (refine dw_exit ?_) | (refine CallC.mk (right_D a.ps a.xs) (LeL.of_eq rfl) ?_) | (refine CallC.light (right_D a.ps a.xs) (LeL.of_eq rfl) ?_) | (refine CallC.mk (awake_D) (LeL.of_eq rfl) ?_) | (refine CallC.light (awake_D) (LeL.of_eq rfl) ?_) | (refine dw_ret ?_)); simp (decide := true) only [go_sem, reduceIte, reduceCtorEq, Nat.reduceEqDiff, Nat.reduceAdd, Nat.reduceMul, Nat.reduceSub, Nat.reduceLeDiff, Nat.reduceBEq, hf, t1, AskT.row]) | (apply dw_cond; (simp (decide := true) only [go_sem, reduceIte, reduceCtorEq, Nat.reduceEqDiff, Nat.reduceAdd, Nat.reduceMul, Nat.reduceSub, Nat.reduceLeDiff, Nat.reduceBEq, hf, t1, AskT.row]; rfl); all_goals (intro hcnd; first | (exact absurd hcnd (by decide)) | skip)) | ((first | refine guardC_f ?_ ?_ | refine guardC_t ?_ ?_) <;> (intro hcnd; simp (decide := true) only [go_sem, reduceIte, reduceCtorEq, Nat.reduceEqDiff, Nat.reduceAdd, Nat.reduceMul, Nat.reduceSub, Nat.reduceLeDiff, Nat.reduceBEq, hcnd, hf, t1, AskT.row]))))
  rcases Bool.eq_false_or_eq_true (decide ((50 : Int) < (sp.length : Int))) with t2 | t2
  · (repeat' (first | (refine dw_seq ?_) | (refine dw_block ?_) | ((first | (refine dw_reg (N := 123) rfl (by kernel_rfl) ?_) | (apply dw_drw (id := 8) (N := 123) [(0, .light), (1, .light), (2, .light), (3, .light), (4, .light), (5, .light), (6, .light), (7, .light), (8, .light)]; kernel_rfl; rfl; kernel_rfl; (repeat (first | exact Picks.nil | (apply Picks.cons; rfl)))) | (refine dw_skip ?_) | (refine dw_exit ?_) | (refine CallC.mk (right_D a.ps a.xs) (LeL.of_eq rfl) ?_) | (refine CallC.light (right_D a.ps a.xs) (LeL.of_eq rfl) ?_) | (refine CallC.mk (awake_D) (LeL.of_eq rfl) ?_) | (refine CallC.light (awake_D) (LeL.of_eq rfl) ?_) | (refine dw_ret ?_)); simp (decide := true) only [go_sem, reduceIte, reduceCtorEq, Nat.reduceEqDiff, Nat.reduceAdd, Nat.reduceMul, Nat.reduceSub, Nat.reduceLeDiff, Nat.reduceBEq, hf, t1, t2, AskT.row]) | (apply dw_cond; (simp (decide := true) only [go_sem, reduceIte, reduceCtorEq, Nat.reduceEqDiff, Nat.reduceAdd, Nat.reduceMul, Nat.reduceSub, Nat.reduceLeDiff, Nat.reduceBEq, hf, t1, t2, AskT.row]; rfl); all_goals (intro hcnd; first | (exact absurd hcnd (by decide)) | skip)) | ((first | refine guardC_f ?_ ?_ | refine guardC_t ?_ ?_) <;> (intro hcnd; simp (decide := true) only [go_sem, reduceIte, reduceCtorEq, Nat.reduceEqDiff, Nat.reduceAdd, Nat.reduceMul, Nat.reduceSub, Nat.reduceLeDiff, Nat.reduceBEq, hcnd, hf, t1, t2, AskT.row]))))
  rcases Bool.eq_false_or_eq_true (decide (a.day < 1)) with t3 | t3
  · (repeat' (first | (refine dw_seq ?_) | (refine dw_block ?_) | ((first | (refine dw_reg (N := 123) rfl (by kernel_rfl) ?_) | (apply dw_drw (id := 8) (N := 123) [(0, .light), (1, .light), (2, .light), (3, .light), (4, .light), (5, .light), (6, .light), (7, .light), (8, .light)]; kernel_rfl; rfl; kernel_rfl; (repeat (first | exact Picks.nil | (apply Picks.cons; rfl)))) | (refine dw_skip ?_) | (refine dw_exit ?_) | (refine CallC.mk (right_D a.ps a.xs) (LeL.of_eq rfl) ?_) | (refine CallC.light (right_D a.ps a.xs) (LeL.of_eq rfl) ?_) | (refine CallC.mk (awake_D) (LeL.of_eq rfl) ?_) | (refine CallC.light (awake_D) (LeL.of_eq rfl) ?_) | (refine dw_ret ?_)); simp (decide := true) only [go_sem, reduceIte, reduceCtorEq, Nat.reduceEqDiff, Nat.reduceAdd, Nat.reduceMul, Nat.reduceSub, Nat.reduceLeDiff, Nat.reduceBEq, hf, t1, t2, t3, AskT.row]) | (apply dw_cond; (simp (decide := true) only [go_sem, reduceIte, reduceCtorEq, Nat.reduceEqDiff, Nat.reduceAdd, Nat.reduceMul, Nat.reduceSub, Nat.reduceLeDiff, Nat.reduceBEq, hf, t1, t2, t3, AskT.row]; rfl); all_goals (intro hcnd; first | (exact absurd hcnd (by decide)) | skip)) | ((first | refine guardC_f ?_ ?_ | refine guardC_t ?_ ?_) <;> (intro hcnd; simp (decide := true) only [go_sem, reduceIte, reduceCtorEq, Nat.reduceEqDiff, Nat.reduceAdd, Nat.reduceMul, Nat.reduceSub, Nat.reduceLeDiff, Nat.reduceBEq, hcnd, hf, t1, t2, t3, AskT.row]))))
  rcases Bool.eq_false_or_eq_true (decide (109573 < a.day)) with t4 | t4
  · (repeat' (first | (refine dw_seq ?_) | (refine dw_block ?_) | ((first | (refine dw_reg (N := 123) rfl (by kernel_rfl) ?_) | (apply dw_drw (id := 8) (N := 123) [(0, .light), (1, .light), (2, .light), (3, .light), (4, .light), (5, .light), (6, .light), (7, .light), (8, .light)]; kernel_rfl; rfl; kernel_rfl; (repeat (first | exact Picks.nil | (apply Picks.cons; rfl)))) | (refine dw_skip ?_) | (refine dw_exit ?_) | (refine CallC.mk (right_D a.ps a.xs) (LeL.of_eq rfl) ?_) | (refine CallC.light (right_D a.ps a.xs) (LeL.of_eq rfl) ?_) | (refine CallC.mk (awake_D) (LeL.of_eq rfl) ?_) | (refine CallC.light (awake_D) (LeL.of_eq rfl) ?_) | (refine dw_ret ?_)); simp (decide := true) only [go_sem, reduceIte, reduceCtorEq, Nat.reduceEqDiff, Nat.reduceAdd, Nat.reduceMul, Nat.reduceSub, Nat.reduceLeDiff, Nat.reduceBEq, hf, t1, t2, t3, t4, AskT.row]) | (apply dw_cond; (simp (decide := true) only [go_sem, reduceIte, reduceCtorEq, Nat.reduceEqDiff, Nat.reduceAdd, Nat.reduceMul, Nat.reduceSub, Nat.reduceLeDiff, Nat.reduceBEq, hf, t1, t2, t3, t4, AskT.row]; rfl); all_goals (intro hcnd; first | (exact absurd hcnd (by decide)) | skip)) | ((first | refine guardC_f ?_ ?_ | refine guardC_t ?_ ?_) <;> (intro hcnd; simp (decide := true) only [go_sem, reduceIte, reduceCtorEq, Nat.reduceEqDiff, Nat.reduceAdd, Nat.reduceMul, Nat.reduceSub, Nat.reduceLeDiff, Nat.reduceBEq, hcnd, hf, t1, t2, t3, t4, AskT.row]))))
  have hday1 : 1 ≤ a.day := by simp at t3; omega
  have hday2 : a.day ≤ 109573 := by simp at t4; omega
  have hs : sp.length ≤ 50 := by simp at t2; omega
  (repeat' (first | (refine dw_seq ?_) | (refine dw_block ?_) | ((first | (refine dw_reg (N := 123) rfl (by kernel_rfl) ?_) | (apply dw_drw (id := 8) (N := 123) [(0, .light), (1, .light), (2, .light), (3, .light), (4, .light), (5, .light), (6, .light), (7, .light), (8, .light)]; kernel_rfl; rfl; kernel_rfl; (repeat (first | exact Picks.nil | (apply Picks.cons; rfl)))) | (refine dw_skip ?_) | (refine dw_exit ?_) | (refine CallC.mk (right_D a.ps a.xs) (LeL.of_eq rfl) ?_) | (refine CallC.light (right_D a.ps a.xs) (LeL.of_eq rfl) ?_) | (refine CallC.mk (rPerson_D a.ps a.person (by omega)) (LeL.of_eq rfl) ?_) | (refine CallC.light (rPerson_D a.ps a.person (by omega)) (LeL.of_eq rfl) ?_) | (refine dw_ret ?_)); simp (decide := true) only [go_sem, reduceIte, reduceCtorEq, Nat.reduceEqDiff, Nat.reduceAdd, Nat.reduceMul, Nat.reduceSub, Nat.reduceLeDiff, Nat.reduceBEq, hf, t1, t2, t3, t4, AskT.row, Pers.row]) | (apply dw_cond; (simp (decide := true) only [go_sem, reduceIte, reduceCtorEq, Nat.reduceEqDiff, Nat.reduceAdd, Nat.reduceMul, Nat.reduceSub, Nat.reduceLeDiff, Nat.reduceBEq, hf, t1, t2, t3, t4, AskT.row, Pers.row]; rfl); all_goals (intro hcnd; first | (exact absurd hcnd (by decide)) | skip)) | ((first | refine guardC_f ?_ ?_ | refine guardC_t ?_ ?_) <;> (intro hcnd; simp (decide := true) only [go_sem, reduceIte, reduceCtorEq, Nat.reduceEqDiff, Nat.reduceAdd, Nat.reduceMul, Nat.reduceSub, Nat.reduceLeDiff, Nat.reduceBEq, hcnd, hf, t1, t2, t3, t4, AskT.row, Pers.row]))))
  obtain ⟨ok, hok⟩ : ∃ ok, ok = (persOf a.ps a.person).2 := ⟨_, rfl⟩
  rw [← hok]
  refine dw_rng0 a.xs (fun k => kn 123 [(1, dv (.sl 1 (ints sp))), (2, .one (.bx 2 5 0 0)), (6, dv (lb ok)), (7, dv (li (lastP a.person (a.xs.take k)))), (8, dv (li k))] (ml [(2, [a.row])])) (by omega) (sub_ml rfl (by simp (decide := true) only [go_sem, reduceIte, reduceCtorEq, Nat.reduceEqDiff, Nat.reduceAdd, Nat.reduceMul, Nat.reduceSub, Nat.reduceLeDiff, Nat.reduceBEq, List.take_zero, lastP, List.foldl_nil]) (by simp (decide := true) only [go_sem, reduceIte, reduceCtorEq, Nat.reduceEqDiff, Nat.reduceAdd, Nat.reduceMul, Nat.reduceSub, Nat.reduceLeDiff, Nat.reduceBEq] <;> rfl)) ?_ ?_
  · intro k c hc hk hm htk hlt hw
    have hfo : lastP a.person (a.xs.take (k + 1)) = lastStep a.person (lastP a.person (a.xs.take k)) c := by rw [lastP, htk, List.foldl_append]; rfl
    cases t5 : c.person == a.person
    · (repeat' (first | (refine dw_seq ?_) | (refine dw_block ?_) | ((first | (refine dw_reg (N := 123) rfl (by kernel_rfl) ?_) | (apply dw_drw (id := 8) (N := 123) [(0, .light), (1, .light), (2, .light), (3, .light), (4, .light), (5, .light), (6, .light), (7, .light), (8, .light)]; kernel_rfl; rfl; kernel_rfl; (repeat (first | exact Picks.nil | (apply Picks.cons; rfl)))) | (refine dw_skip ?_) | (refine dw_exit ?_) | (refine dw_ret ?_)); simp (decide := true) only [go_sem, reduceIte, reduceCtorEq, Nat.reduceEqDiff, Nat.reduceAdd, Nat.reduceMul, Nat.reduceSub, Nat.reduceLeDiff, Nat.reduceBEq, hlt, hw, hc, t5, Cons.enc, AskT.row]) | (apply dw_cond; (simp (decide := true) only [go_sem, reduceIte, reduceCtorEq, Nat.reduceEqDiff, Nat.reduceAdd, Nat.reduceMul, Nat.reduceSub, Nat.reduceLeDiff, Nat.reduceBEq, hlt, hw, hc, t5, Cons.enc, AskT.row]; rfl); all_goals (intro hcnd; first | (exact absurd hcnd (by decide)) | skip)) | ((first | refine guardC_f ?_ ?_ | refine guardC_t ?_ ?_) <;> (intro hcnd; simp (decide := true) only [go_sem, reduceIte, reduceCtorEq, Nat.reduceEqDiff, Nat.reduceAdd, Nat.reduceMul, Nat.reduceSub, Nat.reduceLeDiff, Nat.reduceBEq, hcnd, hlt, hw, hc, t5, Cons.enc, AskT.row]))))
      exact sub_ml rfl (by simp (decide := true) only [go_sem, reduceIte, reduceCtorEq, Nat.reduceEqDiff, Nat.reduceAdd, Nat.reduceMul, Nat.reduceSub, Nat.reduceLeDiff, Nat.reduceBEq, hfo, lastStep, t5]) (by simp (decide := true) only [go_sem, reduceIte, reduceCtorEq, Nat.reduceEqDiff, Nat.reduceAdd, Nat.reduceMul, Nat.reduceSub, Nat.reduceLeDiff, Nat.reduceBEq, AskT.row])
    · (repeat' (first | (refine dw_seq ?_) | (refine dw_block ?_) | ((first | (refine dw_reg (N := 123) rfl (by kernel_rfl) ?_) | (apply dw_drw (id := 8) (N := 123) [(0, .light), (1, .light), (2, .light), (3, .light), (4, .light), (5, .light), (6, .light), (7, .light), (8, .light)]; kernel_rfl; rfl; kernel_rfl; (repeat (first | exact Picks.nil | (apply Picks.cons; rfl)))) | (refine dw_skip ?_) | (refine dw_exit ?_) | (refine dw_ret ?_)); simp (decide := true) only [go_sem, reduceIte, reduceCtorEq, Nat.reduceEqDiff, Nat.reduceAdd, Nat.reduceMul, Nat.reduceSub, Nat.reduceLeDiff, Nat.reduceBEq, hlt, hw, hc, t5, Cons.enc, AskT.row]) | (apply dw_cond; (simp (decide := true) only [go_sem, reduceIte, reduceCtorEq, Nat.reduceEqDiff, Nat.reduceAdd, Nat.reduceMul, Nat.reduceSub, Nat.reduceLeDiff, Nat.reduceBEq, hlt, hw, hc, t5, Cons.enc, AskT.row]; rfl); all_goals (intro hcnd; first | (exact absurd hcnd (by decide)) | skip)) | ((first | refine guardC_f ?_ ?_ | refine guardC_t ?_ ?_) <;> (intro hcnd; simp (decide := true) only [go_sem, reduceIte, reduceCtorEq, Nat.reduceEqDiff, Nat.reduceAdd, Nat.reduceMul, Nat.reduceSub, Nat.reduceLeDiff, Nat.reduceBEq, hcnd, hlt, hw, hc, t5, Cons.enc, AskT.row]))))
      exact sub_ml rfl (by simp (decide := true) only [go_sem, reduceIte, reduceCtorEq, Nat.reduceEqDiff, Nat.reduceAdd, Nat.reduceMul, Nat.reduceSub, Nat.reduceLeDiff, Nat.reduceBEq, hfo, lastStep, t5]) (by simp (decide := true) only [go_sem, reduceIte, reduceCtorEq, Nat.reduceEqDiff, Nat.reduceAdd, Nat.reduceMul, Nat.reduceSub, Nat.reduceLeDiff, Nat.reduceBEq, AskT.row])
  intro hlt
  rw [List.take_length]
  cases ok
  · (repeat' (first | (refine dw_seq ?_) | (refine dw_block ?_) | ((first | (refine dw_reg (N := 123) rfl (by kernel_rfl) ?_) | (apply dw_drw (id := 8) (N := 123) [(0, .light), (1, .light), (2, .light), (3, .light), (4, .light), (5, .light), (6, .light), (7, .light), (8, .light)]; kernel_rfl; rfl; kernel_rfl; (repeat (first | exact Picks.nil | (apply Picks.cons; rfl)))) | (refine dw_skip ?_) | (refine dw_exit ?_) | (refine CallC.mk (awake_D) (LeL.of_eq rfl) ?_) | (refine CallC.light (awake_D) (LeL.of_eq rfl) ?_) | (refine dw_ret ?_)); simp (decide := true) only [go_sem, reduceIte, reduceCtorEq, Nat.reduceEqDiff, Nat.reduceAdd, Nat.reduceMul, Nat.reduceSub, Nat.reduceLeDiff, Nat.reduceBEq, hlt, AskT.row]) | (apply dw_cond; (simp (decide := true) only [go_sem, reduceIte, reduceCtorEq, Nat.reduceEqDiff, Nat.reduceAdd, Nat.reduceMul, Nat.reduceSub, Nat.reduceLeDiff, Nat.reduceBEq, hlt, AskT.row]; rfl); all_goals (intro hcnd; first | (exact absurd hcnd (by decide)) | skip)) | ((first | refine guardC_f ?_ ?_ | refine guardC_t ?_ ?_) <;> (intro hcnd; simp (decide := true) only [go_sem, reduceIte, reduceCtorEq, Nat.reduceEqDiff, Nat.reduceAdd, Nat.reduceMul, Nat.reduceSub, Nat.reduceLeDiff, Nat.reduceBEq, hcnd, hlt, AskT.row]))))
  rcases Bool.eq_false_or_eq_true (decide (a.day < lastP a.person a.xs)) with t5 | t5
  · (repeat' (first | (refine dw_seq ?_) | (refine dw_block ?_) | ((first | (refine dw_reg (N := 123) rfl (by kernel_rfl) ?_) | (apply dw_drw (id := 8) (N := 123) [(0, .light), (1, .light), (2, .light), (3, .light), (4, .light), (5, .light), (6, .light), (7, .light), (8, .light)]; kernel_rfl; rfl; kernel_rfl; (repeat (first | exact Picks.nil | (apply Picks.cons; rfl)))) | (refine dw_skip ?_) | (refine dw_exit ?_) | (refine CallC.mk (awake_D) (LeL.of_eq rfl) ?_) | (refine CallC.light (awake_D) (LeL.of_eq rfl) ?_) | (refine dw_ret ?_)); simp (decide := true) only [go_sem, reduceIte, reduceCtorEq, Nat.reduceEqDiff, Nat.reduceAdd, Nat.reduceMul, Nat.reduceSub, Nat.reduceLeDiff, Nat.reduceBEq, hlt, t5, AskT.row]) | (apply dw_cond; (simp (decide := true) only [go_sem, reduceIte, reduceCtorEq, Nat.reduceEqDiff, Nat.reduceAdd, Nat.reduceMul, Nat.reduceSub, Nat.reduceLeDiff, Nat.reduceBEq, hlt, t5, AskT.row]; rfl); all_goals (intro hcnd; first | (exact absurd hcnd (by decide)) | skip)) | ((first | refine guardC_f ?_ ?_ | refine guardC_t ?_ ?_) <;> (intro hcnd; simp (decide := true) only [go_sem, reduceIte, reduceCtorEq, Nat.reduceEqDiff, Nat.reduceAdd, Nat.reduceMul, Nat.reduceSub, Nat.reduceLeDiff, Nat.reduceBEq, hcnd, hlt, t5, AskT.row]))))
  have hlast : lastP a.person a.xs ≤ a.day := by simp at t5; omega
  have h1 := give_D a.xs ⟨a.person, 0, a.day, 0⟩ (by omega)
  simp only [cRow] at h1
  (repeat' (first | (refine dw_seq ?_) | (refine dw_block ?_) | ((first | (refine dw_reg (N := 123) rfl (by kernel_rfl) ?_) | (apply dw_drw (id := 8) (N := 123) [(0, .light), (1, .light), (2, .light), (3, .light), (4, .light), (5, .light), (6, .light), (7, .light), (8, .light)]; kernel_rfl; rfl; kernel_rfl; (repeat (first | exact Picks.nil | (apply Picks.cons; rfl)))) | (refine dw_skip ?_) | (refine dw_exit ?_) | (refine CallC.mk (h1) (LeL.of_eq rfl) ?_) | (refine CallC.light (h1) (LeL.of_eq rfl) ?_) | (refine dw_ret ?_)); simp (decide := true) only [go_sem, reduceIte, reduceCtorEq, Nat.reduceEqDiff, Nat.reduceAdd, Nat.reduceMul, Nat.reduceSub, Nat.reduceLeDiff, Nat.reduceBEq, hlt, t5, AskT.row]) | (apply dw_cond; (simp (decide := true) only [go_sem, reduceIte, reduceCtorEq, Nat.reduceEqDiff, Nat.reduceAdd, Nat.reduceMul, Nat.reduceSub, Nat.reduceLeDiff, Nat.reduceBEq, hlt, t5, AskT.row]; rfl); all_goals (intro hcnd; first | (exact absurd hcnd (by decide)) | skip)) | ((first | refine guardC_f ?_ ?_ | refine guardC_t ?_ ?_) <;> (intro hcnd; simp (decide := true) only [go_sem, reduceIte, reduceCtorEq, Nat.reduceEqDiff, Nat.reduceAdd, Nat.reduceMul, Nat.reduceSub, Nat.reduceLeDiff, Nat.reduceBEq, hcnd, hlt, t5, AskT.row]))))
  have hgl : (giveK a.xs ⟨a.person, 0, a.day, 0⟩).length ≤ 1000 := by rw [give_len]; omega
  obtain ⟨gs, hgs⟩ : ∃ gs, gs = giveK a.xs ⟨a.person, 0, a.day, 0⟩ := ⟨_, rfl⟩
  have hat : ∀ d, a.day ≤ d → atK gs a.person a.rcd d = 0 := fun d hd => by rw [hgs]; exact at_withdrawn hr.srt hlast hd
  have hle : ∀ d, a.day ≤ d → a.person ∈ sp → leastK gs ⟨a.rcd, ⟨#[]⟩, 0, 0, sp⟩ d = 0 := fun d hd hm => by rw [hgs]; exact least_withdrawn hr hlast hd _ hm
  rw [← hgs] at hgl ⊢
  refine dw_loop_fam (fun k : Nat => kn 123 [(1, dv (.sl 1 (ints sp))), (2, .one (.bx 2 5 0 0)), (9, dv (.sl 4 (gs.map Cons.enc))), (10, dv (li k))] (ml [(2, [a.row])])) (fun k => k ≤ 3) (fun k => 3 - k) 0 (sub_ml rfl (by simp (decide := true) only [go_sem, reduceIte, reduceCtorEq, Nat.reduceEqDiff, Nat.reduceAdd, Nat.reduceMul, Nat.reduceSub, Nat.reduceLeDiff, Nat.reduceBEq]) (by simp (decide := true) only [go_sem, reduceIte, reduceCtorEq, Nat.reduceEqDiff, Nat.reduceAdd, Nat.reduceMul, Nat.reduceSub, Nat.reduceLeDiff, Nat.reduceBEq, AskT.row])) (by omega) ?_
  intro k hk
  cases hk3 : decide ((k : Int) < 3)
  · (repeat' (first | (refine dw_seq ?_) | (refine dw_block ?_) | ((first | (refine dw_reg (N := 123) rfl (by kernel_rfl) ?_) | (apply dw_drw (id := 8) (N := 123) [(0, .light), (1, .light), (2, .light), (3, .light), (4, .light), (5, .light), (6, .light), (7, .light), (8, .light)]; kernel_rfl; rfl; kernel_rfl; (repeat (first | exact Picks.nil | (apply Picks.cons; rfl)))) | (refine dw_skip ?_) | (refine dw_exit ?_) | (refine CallC.mk (awake_D) (LeL.of_eq rfl) ?_) | (refine CallC.light (awake_D) (LeL.of_eq rfl) ?_) | (refine dw_ret ?_)); simp (decide := true) only [go_sem, reduceIte, reduceCtorEq, Nat.reduceEqDiff, Nat.reduceAdd, Nat.reduceMul, Nat.reduceSub, Nat.reduceLeDiff, Nat.reduceBEq, hk3]) | (apply dw_cond; (simp (decide := true) only [go_sem, reduceIte, reduceCtorEq, Nat.reduceEqDiff, Nat.reduceAdd, Nat.reduceMul, Nat.reduceSub, Nat.reduceLeDiff, Nat.reduceBEq, hk3]; rfl); all_goals (intro hcnd; first | (exact absurd hcnd (by decide)) | skip)) | ((first | refine guardC_f ?_ ?_ | refine guardC_t ?_ ?_) <;> (intro hcnd; simp (decide := true) only [go_sem, reduceIte, reduceCtorEq, Nat.reduceEqDiff, Nat.reduceAdd, Nat.reduceMul, Nat.reduceSub, Nat.reduceLeDiff, Nat.reduceBEq, hcnd, hk3]))))
  · have hk' : k < 3 := by simp at hk3; omega
    have hw1 : IntKind.wrap .i64 (a.day + (k : Int)) = a.day + k := by rw [wrap_i64 (by omega) (by omega)]
    have hw2 := wrap_succ k (by omega)
    have h2 := at_D gs a.person a.rcd (a.day + k) (by omega)
    rw [hat _ (by omega)] at h2
    have h3 := has_D sp a.person (by omega)
    have h4 := least_D gs ⟨a.rcd, ⟨#[]⟩, 0, 0, sp⟩ (a.day + k) (by omega) (by simp only; omega)
    simp only [Rcd.row] at h4
    cases hh : sp.any fun x => x == a.person
    · rw [hh] at h3
      (repeat' (first | (refine dw_seq ?_) | (refine dw_block ?_) | ((first | (refine dw_reg (N := 123) rfl (by kernel_rfl) ?_) | (apply dw_drw (id := 8) (N := 123) [(0, .light), (1, .light), (2, .light), (3, .light), (4, .light), (5, .light), (6, .light), (7, .light), (8, .light)]; kernel_rfl; rfl; kernel_rfl; (repeat (first | exact Picks.nil | (apply Picks.cons; rfl)))) | (refine dw_skip ?_) | (refine dw_exit ?_) | (refine CallC.mk (h2) (LeL.of_eq rfl) ?_) | (refine CallC.light (h2) (LeL.of_eq rfl) ?_) | (refine CallC.mk (h3) (LeL.of_eq rfl) ?_) | (refine CallC.light (h3) (LeL.of_eq rfl) ?_) | (refine dw_ret ?_)); simp (decide := true) only [go_sem, reduceIte, reduceCtorEq, Nat.reduceEqDiff, Nat.reduceAdd, Nat.reduceMul, Nat.reduceSub, Nat.reduceLeDiff, Nat.reduceBEq, hk3, hw1, hw2, AskT.row, bne_self_eq_false]) | (apply dw_cond; (simp (decide := true) only [go_sem, reduceIte, reduceCtorEq, Nat.reduceEqDiff, Nat.reduceAdd, Nat.reduceMul, Nat.reduceSub, Nat.reduceLeDiff, Nat.reduceBEq, hk3, hw1, hw2, AskT.row, bne_self_eq_false]; rfl); all_goals (intro hcnd; first | (exact absurd hcnd (by decide)) | skip)) | ((first | refine guardC_f ?_ ?_ | refine guardC_t ?_ ?_) <;> (intro hcnd; simp (decide := true) only [go_sem, reduceIte, reduceCtorEq, Nat.reduceEqDiff, Nat.reduceAdd, Nat.reduceMul, Nat.reduceSub, Nat.reduceLeDiff, Nat.reduceBEq, hcnd, hk3, hw1, hw2, AskT.row, bne_self_eq_false]))))
      exact ⟨k + 1, by omega, by omega, sub_ml rfl (by simp (decide := true) only [go_sem, reduceIte, reduceCtorEq, Nat.reduceEqDiff, Nat.reduceAdd, Nat.reduceMul, Nat.reduceSub, Nat.reduceLeDiff, Nat.reduceBEq]) (by simp (decide := true) only [go_sem, reduceIte, reduceCtorEq, Nat.reduceEqDiff, Nat.reduceAdd, Nat.reduceMul, Nat.reduceSub, Nat.reduceLeDiff, Nat.reduceBEq, AskT.row])⟩
    · rw [hh] at h3
      have hm : a.person ∈ sp := by
        obtain ⟨x, hx, hxp⟩ := List.any_eq_true.1 hh
        have : x = a.person := by simpa using hxp
        exact this ▸ hx
      rw [hle _ (by omega) hm] at h4
      (repeat' (first | (refine dw_seq ?_) | (refine dw_block ?_) | ((first | (refine dw_reg (N := 123) rfl (by kernel_rfl) ?_) | (apply dw_drw (id := 8) (N := 123) [(0, .light), (1, .light), (2, .light), (3, .light), (4, .light), (5, .light), (6, .light), (7, .light), (8, .light)]; kernel_rfl; rfl; kernel_rfl; (repeat (first | exact Picks.nil | (apply Picks.cons; rfl)))) | (refine dw_skip ?_) | (refine dw_exit ?_) | (refine CallC.mk (h2) (LeL.of_eq rfl) ?_) | (refine CallC.light (h2) (LeL.of_eq rfl) ?_) | (refine CallC.mk (h3) (LeL.of_eq rfl) ?_) | (refine CallC.light (h3) (LeL.of_eq rfl) ?_) | (refine CallC.mk (h4) (LeL.of_eq rfl) ?_) | (refine CallC.light (h4) (LeL.of_eq rfl) ?_) | (refine dw_ret ?_)); simp (decide := true) only [go_sem, reduceIte, reduceCtorEq, Nat.reduceEqDiff, Nat.reduceAdd, Nat.reduceMul, Nat.reduceSub, Nat.reduceLeDiff, Nat.reduceBEq, hk3, hw1, hw2, AskT.row, bne_self_eq_false]) | (apply dw_cond; (simp (decide := true) only [go_sem, reduceIte, reduceCtorEq, Nat.reduceEqDiff, Nat.reduceAdd, Nat.reduceMul, Nat.reduceSub, Nat.reduceLeDiff, Nat.reduceBEq, hk3, hw1, hw2, AskT.row, bne_self_eq_false]; rfl); all_goals (intro hcnd; first | (exact absurd hcnd (by decide)) | skip)) | ((first | refine guardC_f ?_ ?_ | refine guardC_t ?_ ?_) <;> (intro hcnd; simp (decide := true) only [go_sem, reduceIte, reduceCtorEq, Nat.reduceEqDiff, Nat.reduceAdd, Nat.reduceMul, Nat.reduceSub, Nat.reduceLeDiff, Nat.reduceBEq, hcnd, hk3, hw1, hw2, AskT.row, bne_self_eq_false]))))
      exact ⟨k + 1, by omega, by omega, sub_ml rfl (by simp (decide := true) only [go_sem, reduceIte, reduceCtorEq, Nat.reduceEqDiff, Nat.reduceAdd, Nat.reduceMul, Nat.reduceSub, Nat.reduceLeDiff, Nat.reduceBEq]) (by simp (decide := true) only [go_sem, reduceIte, reduceCtorEq, Nat.reduceEqDiff, Nat.reduceAdd, Nat.reduceMul, Nat.reduceSub, Nat.reduceLeDiff, Nat.reduceBEq, AskT.row])⟩
end Go.Proofs.Ytbbocdcdidemmaa
