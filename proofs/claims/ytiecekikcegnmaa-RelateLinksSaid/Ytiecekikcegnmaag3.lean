/- The logic of data over the kit's walk, and contracts of the functions that the law reaches, each said by plain data; part 4 of 6. -/
import Derived.Test.Ytiecekikcegnmaag2
set_option linter.all false
set_option linter.unusedVariables false
set_option linter.unusedSimpArgs false
open Nat renaming reduceEqDiff → n1, reduceAdd → n2, reduceMul → n3, reduceSub → n4, reduceLeDiff → n5, reduceBEq → n6
/- Entries and links: looking up. -/
namespace Go.Proofs.Ytiecekikcegnmaa
open Go.Dl
attribute [local irreducible] DW DCalls ECalls wk IW

def getE (l : List Ent) (id : Int) : Ent × Bool :=
  match l.find? fun e => e.id == id with
  | some e => (e, true)
  | none => (noEnt, false)

theorem find_ex {α : Type} {l : List α} {q : α → Bool} {x : α} (h : l.find? q = some x) : ∃ k, l[k]? = some x ∧ (∀ y ∈ l.take k, q y = false) ∧ q x = true := by
  obtain ⟨hq, us, vs, hl, hu⟩ := List.find?_eq_some_iff_append.1 h
  refine ⟨us.length, by rw [hl]; simp, fun y hy => ?_, hq⟩
  rw [hl, List.take_left'] at hy
  · simpa using hu y hy
  · rfl
theorem find_nex {α : Type} {l : List α} {q : α → Bool} (h : l.find? q = none) : ∀ y ∈ l, q y = false := by simpa using h

set_option maxRecDepth 10000 in
--F51
theorem get1_D (e : Ent) (id : Int) : DCalls Try.prog 51 [.agg e.row, dv (.pt [li id])] (dv (lb (e.id == id))) := by
  refine dcalls (N := 8) (rs := [.tmp 3]) (by kernel_rfl) Try.func51 rfl rfl rfl (by simp) ?_
  (repeat (first | (refine dw_seq ?_) | (refine dw_block ?_) | ((first | (refine dw_reg (N := 8) rfl (by kernel_rfl) ?_) | (refine dw_skip ?_) | (refine dw_exit ?_)); simp (decide := true) only [go_sem, reduceIte, reduceCtorEq, n1, n2, n3, n4, n5, n6, Ent.row])))
  refine dw_ret ?_; simp (decide := true) only [go_sem, reduceIte, reduceCtorEq, n1, n2, n3, n4, n5, n6]

set_option maxRecDepth 10000 in
set_option maxHeartbeats 2000000 in
--F50
theorem idxE_D (l : List Ent) (id : Int) (hl : l.length ≤ 1000000) : DCalls Try.prog 50 [dv (.sl 8 (l.map Ent.enc)), dv (.fn 51 [.pt [li id]])] (dv (li (idxF (fun e => e.id == id) l))) := by
  have hmax : maxLen = 9223372036854775807 := rfl
  refine dcalls (N := 19) (rs := [.tmp 4]) (by kernel_rfl) Try.func50 rfl rfl rfl (by simp) ?_
  (repeat (first | (refine dw_seq ?_) | (refine dw_block ?_) | ((first | (refine dw_reg (N := 19) rfl (by kernel_rfl) ?_) | (refine dw_skip ?_) | (refine dw_exit ?_)); simp (decide := true) only [go_sem, reduceIte, reduceCtorEq, n1, n2, n3, n4, n5, n6])))
  refine dw_rngI l (fun k => kn 19 [(0, dv (.sl 8 (l.map Ent.enc))), (1, dv (.fn 51 [.pt [li id]])), (7, dv (li l.length)), (8, dv (li k))] noMem) (fun k => ∀ e ∈ l.take k, (e.id == id) = false) (by omega) (sub_kn rfl (by simp (decide := true) only [go_sem, reduceIte, reduceCtorEq, n1, n2, n3, n4, n5, n6]) (by simp [noMem])) (by simp) ?_ ?_
  · intro k e he hk hm htk hlt hw hi
    have hc := get1_D e id
    simp only [Ent.row] at hc
    (repeat' (first | (refine dw_seq ?_) | (refine dw_block ?_) | ((first | (refine dw_reg (N := 19) rfl (by kernel_rfl) ?_) | (refine dw_skip ?_) | (refine dw_exit ?_) | (refine CallC.mk (hc) (LeL.of_eq rfl) ?_) | (refine CallC.light (hc) (LeL.of_eq rfl) ?_) | (refine dw_ret ?_)); simp (decide := true) only [go_sem, reduceIte, reduceCtorEq, n1, n2, n3, n4, n5, n6, hlt, hw, he, Ent.enc]) | (apply dw_cond; (simp (decide := true) only [go_sem, reduceIte, reduceCtorEq, n1, n2, n3, n4, n5, n6, hlt, hw, he, Ent.enc]; rfl); all_goals (intro hcnd; first | (exact absurd hcnd (by decide)) | skip)) | ((first | refine guardC_f ?_ ?_ | refine guardC_t ?_ ?_) <;> (intro hcnd; simp (decide := true) only [go_sem, reduceIte, reduceCtorEq, n1, n2, n3, n4, n5, n6, hcnd, hlt, hw, he, Ent.enc]))))
    · rw [idxF_at he hi hcnd]
    · exact ⟨forall_snoc htk hi hcnd, sub_kn rfl (by simp (decide := true) only [go_sem, reduceIte, reduceCtorEq, n1, n2, n3, n4, n5, n6]) (by simp [noMem])⟩
  · intro hlt hi
    rw [List.take_length] at hi
    (repeat' (first | (refine dw_seq ?_) | (refine dw_block ?_) | ((first | (refine dw_reg (N := 19) rfl (by kernel_rfl) ?_) | (refine dw_skip ?_) | (refine dw_exit ?_) | (refine dw_ret ?_)); simp (decide := true) only [go_sem, reduceIte, reduceCtorEq, n1, n2, n3, n4, n5, n6, hlt]) | (apply dw_cond; (simp (decide := true) only [go_sem, reduceIte, reduceCtorEq, n1, n2, n3, n4, n5, n6, hlt]; rfl); all_goals (intro hcnd; first | (exact absurd hcnd (by decide)) | skip)) | ((first | refine guardC_f ?_ ?_ | refine guardC_t ?_ ?_) <;> (intro hcnd; simp (decide := true) only [go_sem, reduceIte, reduceCtorEq, n1, n2, n3, n4, n5, n6, hcnd, hlt]))))
    rw [idxF_no hi]

set_option maxRecDepth 10000 in
set_option maxHeartbeats 2000000 in
--F29
theorem get_D (l : List Ent) (id : Int) (hl : l.length ≤ 1000000) : DCalls Try.prog 29 [dv (.sl 8 (l.map Ent.enc)), dv (li id)] (.tup [.agg (getE l id).1.row, dv (lb (getE l id).2)]) := by
  refine dcalls (N := 17) (rs := [.cell 4 45, .tmp 5]) (by kernel_rfl) Try.func29 rfl rfl rfl (by simp) ?_
  (repeat (first | (refine dw_seq ?_) | (refine dw_block ?_) | ((first | (refine dw_reg (N := 17) rfl (by kernel_rfl) ?_) | (refine dw_skip ?_) | (refine dw_exit ?_)); simp (decide := true) only [go_sem, reduceIte, reduceCtorEq, n1, n2, n3, n4, n5, n6])))
  refine CallC.frz 3 [li id] (by simp) (by simp (decide := true) only [go_sem, reduceIte, reduceCtorEq, n1, n2, n3, n4, n5, n6]) ?_
  simp (decide := true) only [go_sem, reduceIte, reduceCtorEq, n1, n2, n3, n4, n5, n6]
  (first | (refine CallC.mk (idxE_D l id hl) (LeL.of_eq rfl) ?_) | (refine CallC.light (idxE_D l id hl) (LeL.of_eq rfl) ?_)); simp (decide := true) only [go_sem, reduceIte, reduceCtorEq, n1, n2, n3, n4, n5, n6]
  cases hf : l.find? (fun e => e.id == id) with
  | none =>
    rw [idxF_no (find_nex hf)]
    (repeat' (first | (refine dw_seq ?_) | (refine dw_block ?_) | ((first | (refine dw_reg (N := 17) rfl (by kernel_rfl) ?_) | (refine dw_skip ?_) | (refine dw_exit ?_)); simp (decide := true) only [go_sem, reduceIte, reduceCtorEq, n1, n2, n3, n4, n5, n6]) | (apply dw_cond; (simp (decide := true) only [go_sem, reduceIte, reduceCtorEq, n1, n2, n3, n4, n5, n6]; rfl); all_goals (intro hcnd; first | (exact absurd hcnd (by decide)) | skip)) | ((first | refine guardC_f ?_ ?_ | refine guardC_t ?_ ?_) <;> (intro hcnd; simp (decide := true) only [go_sem, reduceIte, reduceCtorEq, n1, n2, n3, n4, n5, n6, hcnd]))))
    refine dw_exc 4 (by simp (decide := true) only [go_sem, reduceIte, reduceCtorEq, n1, n2, n3, n4, n5, n6]; rfl) ?_
    refine dw_ret ?_; simp (decide := true) only [go_sem, reduceIte, reduceCtorEq, n1, n2, n3, n4, n5, n6]
    simp [getE, hf, Ent.row, noEnt]
  | some e =>
    obtain ⟨k, he, hi, hq⟩ := find_ex hf
    have hn : decide ((k : Int) < 0) = false := by simp
    rw [idxF_at he hi hq]
    (repeat' (first | (refine dw_seq ?_) | (refine dw_block ?_) | ((first | (refine dw_reg (N := 17) rfl (by kernel_rfl) ?_) | (refine dw_skip ?_) | (refine dw_exit ?_) | (refine dw_ret ?_)); simp (decide := true) only [go_sem, reduceIte, reduceCtorEq, n1, n2, n3, n4, n5, n6, hn, he, Ent.enc]) | (apply dw_cond; (simp (decide := true) only [go_sem, reduceIte, reduceCtorEq, n1, n2, n3, n4, n5, n6, hn, he, Ent.enc]; rfl); all_goals (intro hcnd; first | (exact absurd hcnd (by decide)) | skip)) | ((first | refine guardC_f ?_ ?_ | refine guardC_t ?_ ?_) <;> (intro hcnd; simp (decide := true) only [go_sem, reduceIte, reduceCtorEq, n1, n2, n3, n4, n5, n6, hcnd, hn, he, Ent.enc]))))
    simp [getE, hf, Ent.row]

/-! ### The reference's -/

set_option maxRecDepth 10000 in
set_option maxHeartbeats 2000000 in
--F32
theorem rFind_D (l : List Ent) (id : Int) (hl : l.length ≤ 1000000) : DCalls Try.prog 32 [dv (.sl 8 (l.map Ent.enc)), dv (li id)] (dv (li (idxF (fun e => e.id == id) l))) := by
  have hmax : maxLen = 9223372036854775807 := rfl
  refine dcalls (N := 20) (rs := [.tmp 4]) (by kernel_rfl) Try.func32 rfl rfl rfl (by simp) ?_
  (repeat (first | (refine dw_seq ?_) | (refine dw_block ?_) | ((first | (refine dw_reg (N := 20) rfl (by kernel_rfl) ?_) | (refine dw_skip ?_) | (refine dw_exit ?_)); simp (decide := true) only [go_sem, reduceIte, reduceCtorEq, n1, n2, n3, n4, n5, n6])))
  refine dw_rngI l (fun k => kn 20 [(0, dv (.sl 8 (l.map Ent.enc))), (1, dv (li id)), (5, dv (li k))] noMem) (fun k => ∀ e ∈ l.take k, (e.id == id) = false) (by omega) (sub_kn rfl (by simp (decide := true) only [go_sem, reduceIte, reduceCtorEq, n1, n2, n3, n4, n5, n6]) (by simp [noMem])) (by simp) ?_ ?_
  · intro k e he hk hm htk hlt hw hi
    (repeat' (first | (refine dw_seq ?_) | (refine dw_block ?_) | ((first | (refine dw_reg (N := 20) rfl (by kernel_rfl) ?_) | (refine dw_skip ?_) | (refine dw_exit ?_) | (refine dw_ret ?_)); simp (decide := true) only [go_sem, reduceIte, reduceCtorEq, n1, n2, n3, n4, n5, n6, hlt, hw, he, Ent.enc]) | (apply dw_cond; (simp (decide := true) only [go_sem, reduceIte, reduceCtorEq, n1, n2, n3, n4, n5, n6, hlt, hw, he, Ent.enc]; rfl); all_goals (intro hcnd; first | (exact absurd hcnd (by decide)) | skip)) | ((first | refine guardC_f ?_ ?_ | refine guardC_t ?_ ?_) <;> (intro hcnd; simp (decide := true) only [go_sem, reduceIte, reduceCtorEq, n1, n2, n3, n4, n5, n6, hcnd, hlt, hw, he, Ent.enc]))))
    · rw [idxF_at he hi hcnd]
    · exact ⟨forall_snoc htk hi hcnd, sub_kn rfl (by simp (decide := true) only [go_sem, reduceIte, reduceCtorEq, n1, n2, n3, n4, n5, n6]) (by simp [noMem])⟩
  · intro hlt hi
    rw [List.take_length] at hi
    (repeat' (first | (refine dw_seq ?_) | (refine dw_block ?_) | ((first | (refine dw_reg (N := 20) rfl (by kernel_rfl) ?_) | (refine dw_skip ?_) | (refine dw_exit ?_) | (refine dw_ret ?_)); simp (decide := true) only [go_sem, reduceIte, reduceCtorEq, n1, n2, n3, n4, n5, n6, hlt]) | (apply dw_cond; (simp (decide := true) only [go_sem, reduceIte, reduceCtorEq, n1, n2, n3, n4, n5, n6, hlt]; rfl); all_goals (intro hcnd; first | (exact absurd hcnd (by decide)) | skip)) | ((first | refine guardC_f ?_ ?_ | refine guardC_t ?_ ?_) <;> (intro hcnd; simp (decide := true) only [go_sem, reduceIte, reduceCtorEq, n1, n2, n3, n4, n5, n6, hcnd, hlt]))))
    rw [idxF_no hi]

theorem lnk_eq (x y : Lnk) : (x.kind == y.kind && (x.to == y.to)) = decide (x = y) := by rw [Bool.eq_iff_iff]; cases x; cases y; simp

set_option maxRecDepth 10000 in
set_option maxHeartbeats 2000000 in
--F63
theorem idxL_D (l : List Lnk) (x : Lnk) (hl : l.length ≤ maxLen) : DCalls Try.prog 63 [dv (.sl 2 (l.map Lnk.enc)), .agg x.row] (dv (li (idxF (fun y => decide (x = y)) l))) := by
  refine dcalls (N := 19) (rs := [.tmp 4]) (by kernel_rfl) Try.func63 rfl rfl rfl (by simp) ?_
  (repeat (first | (refine dw_seq ?_) | (refine dw_block ?_) | ((first | (refine dw_reg (N := 19) rfl (by kernel_rfl) ?_) | (apply dw_drw (id := 4) (N := 19) [(0, .light), (1, .light), (2, .light), (3, .light), (4, .light), (5, .light)]; kernel_rfl; rfl; kernel_rfl; (repeat (first | exact Picks.nil | (apply Picks.cons; rfl)))) | (refine dw_skip ?_) | (refine dw_exit ?_)); simp (decide := true) only [go_sem, reduceIte, reduceCtorEq, n1, n2, n3, n4, n5, n6, Lnk.row])))
  refine dw_rngI l (fun k => kn 19 [(0, dv (.sl 2 (l.map Lnk.enc))), (3, .one (.bx 3 2 0 0)), (7, dv (li l.length)), (8, dv (li k))] (ml [(3, [x.row])])) (fun k => ∀ y ∈ l.take k, decide (x = y) = false) hl (sub_ml rfl (by simp (decide := true) only [go_sem, reduceIte, reduceCtorEq, n1, n2, n3, n4, n5, n6]) (by simp (decide := true) only [go_sem, reduceIte, reduceCtorEq, n1, n2, n3, n4, n5, n6] <;> rfl)) (by simp) ?_ ?_
  · intro k y hy hk hm htk hlt hw hi
    have he := lnk_eq x y
    (repeat' (first | (refine dw_seq ?_) | (refine dw_block ?_) | ((first | (refine dw_reg (N := 19) rfl (by kernel_rfl) ?_) | (apply dw_drw (id := 4) (N := 19) [(0, .light), (1, .light), (2, .light), (3, .light), (4, .light), (5, .light)]; kernel_rfl; rfl; kernel_rfl; (repeat (first | exact Picks.nil | (apply Picks.cons; rfl)))) | (refine dw_skip ?_) | (refine dw_exit ?_) | (refine dw_ret ?_)); simp (decide := true) only [go_sem, reduceIte, reduceCtorEq, n1, n2, n3, n4, n5, n6, hlt, hw, hy, he, Lnk.enc, Lnk.row]) | (apply dw_cond; (simp (decide := true) only [go_sem, reduceIte, reduceCtorEq, n1, n2, n3, n4, n5, n6, hlt, hw, hy, he, Lnk.enc, Lnk.row]; rfl); all_goals (intro hcnd; first | (exact absurd hcnd (by decide)) | skip)) | ((first | refine guardC_f ?_ ?_ | refine guardC_t ?_ ?_) <;> (intro hcnd; simp (decide := true) only [go_sem, reduceIte, reduceCtorEq, n1, n2, n3, n4, n5, n6, hcnd, hlt, hw, hy, he, Lnk.enc, Lnk.row]))))
    · rw [idxF_at hy hi hcnd]
    · exact ⟨forall_snoc htk hi hcnd, sub_ml rfl (by simp (decide := true) only [go_sem, reduceIte, reduceCtorEq, n1, n2, n3, n4, n5, n6]) (by simp (decide := true) only [go_sem, reduceIte, reduceCtorEq, n1, n2, n3, n4, n5, n6, Lnk.row])⟩
  · intro hlt hi
    rw [List.take_length] at hi
    (repeat' (first | (refine dw_seq ?_) | (refine dw_block ?_) | ((first | (refine dw_reg (N := 19) rfl (by kernel_rfl) ?_) | (apply dw_drw (id := 4) (N := 19) [(0, .light), (1, .light), (2, .light), (3, .light), (4, .light), (5, .light)]; kernel_rfl; rfl; kernel_rfl; (repeat (first | exact Picks.nil | (apply Picks.cons; rfl)))) | (refine dw_skip ?_) | (refine dw_exit ?_) | (refine dw_ret ?_)); simp (decide := true) only [go_sem, reduceIte, reduceCtorEq, n1, n2, n3, n4, n5, n6, hlt]) | (apply dw_cond; (simp (decide := true) only [go_sem, reduceIte, reduceCtorEq, n1, n2, n3, n4, n5, n6, hlt]; rfl); all_goals (intro hcnd; first | (exact absurd hcnd (by decide)) | skip)) | ((first | refine guardC_f ?_ ?_ | refine guardC_t ?_ ?_) <;> (intro hcnd; simp (decide := true) only [go_sem, reduceIte, reduceCtorEq, n1, n2, n3, n4, n5, n6, hcnd, hlt]))))
    rw [idxF_no hi]

set_option maxRecDepth 10000 in
--F52
theorem containsL_D (l : List Lnk) (x : Lnk) (hl : l.length ≤ maxLen) : DCalls Try.prog 52 [dv (.sl 2 (l.map Lnk.enc)), .agg x.row] (dv (lb (l.any fun y => decide (x = y)))) := by
  have h := idxL_D l x hl
  simp only [Lnk.row] at h
  refine dcalls (N := 9) (rs := [.tmp 4]) (by kernel_rfl) Try.func52 rfl rfl rfl (by simp) ?_
  (repeat' (first | (refine dw_seq ?_) | (refine dw_block ?_) | ((first | (refine dw_reg (N := 9) rfl (by kernel_rfl) ?_) | (refine dw_skip ?_) | (refine dw_exit ?_) | (refine CallC.mk (h) (LeL.of_eq rfl) ?_) | (refine CallC.light (h) (LeL.of_eq rfl) ?_) | (refine dw_ret ?_)); simp (decide := true) only [go_sem, reduceIte, reduceCtorEq, n1, n2, n3, n4, n5, n6, idxF_any, Lnk.row]) | (apply dw_cond; (simp (decide := true) only [go_sem, reduceIte, reduceCtorEq, n1, n2, n3, n4, n5, n6, idxF_any, Lnk.row]; rfl); all_goals (intro hcnd; first | (exact absurd hcnd (by decide)) | skip)) | ((first | refine guardC_f ?_ ?_ | refine guardC_t ?_ ?_) <;> (intro hcnd; simp (decide := true) only [go_sem, reduceIte, reduceCtorEq, n1, n2, n3, n4, n5, n6, hcnd, idxF_any, Lnk.row]))))

def hasL (e : Ent) (x : Lnk) : Bool := e.links.any fun y => decide (x = y)

set_option maxRecDepth 10000 in
--F30
theorem has_D (e : Ent) (x : Lnk) (hl : e.links.length ≤ maxLen) : DCalls Try.prog 30 [.agg e.row, .agg x.row] (dv (lb (hasL e x))) := by
  have h := containsL_D e.links x hl
  simp only [Lnk.row] at h
  refine dcalls (N := 9) (rs := [.tmp 4]) (by kernel_rfl) Try.func30 rfl rfl rfl (by simp) ?_
  (repeat' (first | (refine dw_seq ?_) | (refine dw_block ?_) | ((first | (refine dw_reg (N := 9) rfl (by kernel_rfl) ?_) | (refine dw_skip ?_) | (refine dw_exit ?_) | (refine CallC.mk (h) (LeL.of_eq rfl) ?_) | (refine CallC.light (h) (LeL.of_eq rfl) ?_) | (refine dw_ret ?_)); simp (decide := true) only [go_sem, reduceIte, reduceCtorEq, n1, n2, n3, n4, n5, n6, Ent.row, Lnk.row]) | (apply dw_cond; (simp (decide := true) only [go_sem, reduceIte, reduceCtorEq, n1, n2, n3, n4, n5, n6, Ent.row, Lnk.row]; rfl); all_goals (intro hcnd; first | (exact absurd hcnd (by decide)) | skip)) | ((first | refine guardC_f ?_ ?_ | refine guardC_t ?_ ?_) <;> (intro hcnd; simp (decide := true) only [go_sem, reduceIte, reduceCtorEq, n1, n2, n3, n4, n5, n6, hcnd, Ent.row, Lnk.row]))))
  rfl

set_option maxRecDepth 10000 in
set_option maxHeartbeats 2000000 in
--F33
theorem rHas_D (e : Ent) (x : Lnk) (hl : e.links.length ≤ maxLen) : DCalls Try.prog 33 [.agg e.row, .agg x.row] (dv (lb (hasL e x))) := by
  refine dcalls (N := 20) (rs := [.tmp 4]) (by kernel_rfl) Try.func33 rfl rfl rfl (by simp) ?_
  (repeat (first | (refine dw_seq ?_) | (refine dw_block ?_) | ((first | (refine dw_reg (N := 20) rfl (by kernel_rfl) ?_) | (apply dw_drw (id := 4) (N := 20) [(0, .light), (1, .light), (2, .light), (3, .light), (4, .light), (5, .light), (6, .light)]; kernel_rfl; rfl; kernel_rfl; (repeat (first | exact Picks.nil | (apply Picks.cons; rfl)))) | (refine dw_skip ?_) | (refine dw_exit ?_)); simp (decide := true) only [go_sem, reduceIte, reduceCtorEq, n1, n2, n3, n4, n5, n6, Lnk.row, Ent.row])))
  refine dw_rngI e.links (fun k => kn 20 [(2, .one (.bx 2 8 0 0)), (3, .one (.bx 3 2 0 0)), (5, dv (li k))] (ml [(2, [e.row]), (3, [x.row])])) (fun k => ∀ y ∈ e.links.take k, decide (x = y) = false) hl (sub_ml rfl (by simp (decide := true) only [go_sem, reduceIte, reduceCtorEq, n1, n2, n3, n4, n5, n6]) (by simp (decide := true) only [go_sem, reduceIte, reduceCtorEq, n1, n2, n3, n4, n5, n6] <;> exact ⟨rfl, rfl⟩)) (by simp) ?_ ?_
  · intro k y hy hk hm htk hlt hw hi
    have he : (y.kind == x.kind && (y.to == x.to)) = decide (x = y) := by rw [← lnk_eq, Bool.beq_comm (a := x.kind), Bool.beq_comm (a := x.to)]
    (repeat' (first | (refine dw_seq ?_) | (refine dw_block ?_) | ((first | (refine dw_reg (N := 20) rfl (by kernel_rfl) ?_) | (apply dw_drw (id := 4) (N := 20) [(0, .light), (1, .light), (2, .light), (3, .light), (4, .light), (5, .light), (6, .light)]; kernel_rfl; rfl; kernel_rfl; (repeat (first | exact Picks.nil | (apply Picks.cons; rfl)))) | (refine dw_skip ?_) | (refine dw_exit ?_) | (refine dw_ret ?_)); simp (decide := true) only [go_sem, reduceIte, reduceCtorEq, n1, n2, n3, n4, n5, n6, hlt, hw, hy, he, Lnk.enc, Lnk.row, Ent.row]) | (apply dw_cond; (simp (decide := true) only [go_sem, reduceIte, reduceCtorEq, n1, n2, n3, n4, n5, n6, hlt, hw, hy, he, Lnk.enc, Lnk.row, Ent.row]; rfl); all_goals (intro hcnd; first | (exact absurd hcnd (by decide)) | skip)) | ((first | refine guardC_f ?_ ?_ | refine guardC_t ?_ ?_) <;> (intro hcnd; simp (decide := true) only [go_sem, reduceIte, reduceCtorEq, n1, n2, n3, n4, n5, n6, hcnd, hlt, hw, hy, he, Lnk.enc, Lnk.row, Ent.row]))))
    · rw [hasL, any_true hm hcnd]
    · exact ⟨forall_snoc htk hi hcnd, sub_ml rfl (by simp (decide := true) only [go_sem, reduceIte, reduceCtorEq, n1, n2, n3, n4, n5, n6]) (by simp (decide := true) only [go_sem, reduceIte, reduceCtorEq, n1, n2, n3, n4, n5, n6, Lnk.row, Ent.row])⟩
  · intro hlt hi
    rw [List.take_length] at hi
    (repeat' (first | (refine dw_seq ?_) | (refine dw_block ?_) | ((first | (refine dw_reg (N := 20) rfl (by kernel_rfl) ?_) | (apply dw_drw (id := 4) (N := 20) [(0, .light), (1, .light), (2, .light), (3, .light), (4, .light), (5, .light), (6, .light)]; kernel_rfl; rfl; kernel_rfl; (repeat (first | exact Picks.nil | (apply Picks.cons; rfl)))) | (refine dw_skip ?_) | (refine dw_exit ?_) | (refine dw_ret ?_)); simp (decide := true) only [go_sem, reduceIte, reduceCtorEq, n1, n2, n3, n4, n5, n6, hlt, Ent.row]) | (apply dw_cond; (simp (decide := true) only [go_sem, reduceIte, reduceCtorEq, n1, n2, n3, n4, n5, n6, hlt, Ent.row]; rfl); all_goals (intro hcnd; first | (exact absurd hcnd (by decide)) | skip)) | ((first | refine guardC_f ?_ ?_ | refine guardC_t ?_ ?_) <;> (intro hcnd; simp (decide := true) only [go_sem, reduceIte, reduceCtorEq, n1, n2, n3, n4, n5, n6, hcnd, hlt, Ent.row]))))
    have : hasL e x = false := by simpa [hasL] using hi
    rw [this]
end Go.Proofs.Ytiecekikcegnmaa

/- What an entry reaches: the closure that calls itself. -/
namespace Go.Proofs.Ytiecekikcegnmaa
open Go.Dl
attribute [local irreducible] DW DCalls ECalls wk IW

/-- One link of an entry on the way, n: how deep it may go yet. -/
def stepL (l : List Ent) (kind : Int) (rec : Int → List Int → List Int) (out : List Int) (x : Lnk) : List Int :=
  if x.kind != kind || out.any (fun y => x.to == y) then out else if (getE l x.to).2 then rec x.to (out ++ [x.to]) else out

def dfs (l : List Ent) (kind : Int) : Nat → Int → List Int → List Int
  | 0, _, out => out
  | n + 1, id, out => (getE l id).1.links.foldl (stepL l kind (dfs l kind n)) out

/-- How many entries are not met yet. -/
def free (l : List Ent) (out : List Int) : Nat := l.countP fun e => !(out.any fun y => e.id == y)

theorem getE_some {l : List Ent} {id : Int} (h : (getE l id).2 = true) : ∃ e ∈ l, e.id = id := by
  unfold getE at h
  split at h
  · rename_i e he
    have h1 := List.find?_some he
    exact ⟨e, List.mem_of_find?_eq_some he, by simpa using h1⟩
  · cases h

theorem countP_lt {α : Type} {p q : α → Bool} {l : List α} (h : ∀ x ∈ l, q x = true → p x = true) (hx : ∃ x ∈ l, p x = true ∧ q x = false) : l.countP q < l.countP p := by
  induction l with
  | nil => obtain ⟨x, hx, _⟩ := hx; simp at hx
  | cons y l ih =>
    have hle : l.countP q ≤ l.countP p := List.countP_mono_left fun x hx' => h x (List.mem_cons_of_mem _ hx')
    obtain ⟨x, hx, h1, h2⟩ := hx
    rw [List.countP_cons, List.countP_cons]
    rcases List.mem_cons.1 hx with rfl | hx
    · simp [h1, h2]; omega
    · have := ih (fun z hz => h z (List.mem_cons_of_mem _ hz)) ⟨x, hx, h1, h2⟩
      have hy := h y (by simp)
      cases hq : q y <;> cases hp : p y <;> simp_all <;> omega

theorem free_snoc {l : List Ent} {out : List Int} {id : Int} (h : (getE l id).2 = true) (hn : (out.any fun y => id == y) = false) : free l (out ++ [id]) + 1 ≤ free l out := by
  refine countP_lt (fun e _ he => ?_) ?_
  · simp only [List.any_append, Bool.not_or, Bool.and_eq_true] at he; exact he.1
  · obtain ⟨e, he, rfl⟩ := getE_some h
    exact ⟨e, he, by simpa using hn, by simp⟩

theorem free_snoc_le (l : List Ent) (out : List Int) (id : Int) : free l (out ++ [id]) ≤ free l out :=
  List.countP_mono_left fun e _ he => by
    simp only [List.any_append, Bool.not_or, Bool.and_eq_true] at he; exact he.1

/-- Less is free, and no more is met than gets lost of it. -/
def Grow (l : List Ent) (out out' : List Int) : Prop := free l out' ≤ free l out ∧ out'.length + free l out' ≤ out.length + free l out

theorem Grow.refl (l : List Ent) (out : List Int) : Grow l out out := ⟨Nat.le_refl _, Nat.le_refl _⟩
theorem Grow.trans {l : List Ent} {a b c : List Int} (h : Grow l a b) (k : Grow l b c) : Grow l a c := ⟨Nat.le_trans k.1 h.1, Nat.le_trans k.2 h.2⟩

theorem grow_step {l : List Ent} {kind : Int} {rec : Int → List Int → List Int} (hr : ∀ id out, Grow l out (rec id out)) (out : List Int) (x : Lnk) : Grow l out (stepL l kind rec out x) := by
  unfold stepL
  split
  · exact Grow.refl l out
  · rename_i h
    split
    · rename_i hg
      simp only [Bool.or_eq_true, not_or, Bool.not_eq_true] at h
      have := free_snoc hg h.2
      exact Grow.trans ⟨by omega, by simp; omega⟩ (hr x.to (out ++ [x.to]))
    · exact Grow.refl l out

theorem grow_fold {l : List Ent} {kind : Int} {rec : Int → List Int → List Int} (hr : ∀ id out, Grow l out (rec id out)) : ∀ (xs : List Lnk) (out : List Int), Grow l out (xs.foldl (stepL l kind rec) out)
  | [], out => Grow.refl l out
  | x :: xs, out => (grow_step hr out x).trans (grow_fold hr xs _)

theorem grow_dfs (l : List Ent) (kind : Int) : ∀ (n : Nat) (id : Int) (out : List Int), Grow l out (dfs l kind n id out)
  | 0, _, out => Grow.refl l out
  | n + 1, id, out => grow_fold (grow_dfs l kind n) _ out

def SmallE (l : List Ent) : Prop := l.length ≤ 1000000 ∧ ∀ e ∈ l, e.links.length ≤ 1000000

theorem getE_links {l : List Ent} (h : SmallE l) (id : Int) : (getE l id).1.links.length ≤ 1000000 := by
  unfold getE
  split
  · rename_i e he; exact h.2 e (List.mem_of_find?_eq_some he)
  · simp [noEnt]

/-- What the closure has caught. -/
def reachCaps (l : List Ent) (kind : Int) (a b : Nat) : List T := [.c (.pt [.sl 8 (l.map Ent.enc)]), .c (.pt [li kind]), .bx a 1 0 0, .bx b 1 0 0]
def reachMem (l : List Ent) (kind : Int) (out : List Int) (a b : Nat) : Mem := ml [(a, [[.own a 1 (ints out)]]), (b, [[.fv 47 (reachCaps l kind a b)]])]

theorem reachCaps_eq (l : List Ent) (kind : Int) (a b : Nat) : (reachCaps l kind a b).map D.one = [dv (.pt [.sl 8 (l.map Ent.enc)]), dv (.pt [li kind]), .one (.bx a 1 0 0), .one (.bx b 1 0 0)] := rfl

theorem reachMem_call {l : List Ent} {kind : Int} {out : List Int} {a b : Nat} (hab : a ≠ b) {bx : Mem} (h1 : bx (a + NB) = some [[.own (a + NB) 1 (ints out)]]) (h2 : bx (b + NB) = some [[.fv 47 (reachCaps l kind (a + NB) (b + NB))]]) :
    ∀ k r, reachMem l kind out (a + NB + NB) (b + NB + NB) k = some r → callMem bx [a + NB, b + NB] k = some r := fun k r h => by
  have hba : (b = a) = False := by simp [Ne.symm hab]
  have hab' : (a = b) = False := by simp [hab]
  by_cases hk : k = a + NB + NB
  · subst hk
    simp (decide := true) only [go_sem, reduceIte, reduceCtorEq, n1, n2, n3, n4, n5, n6, reachMem] at h
    simp (decide := true) only [go_sem, reduceIte, reduceCtorEq, n1, n2, n3, n4, n5, n6, callMem, h1]
    exact h
  · by_cases hk2 : k = b + NB + NB
    · subst hk2
      simp (decide := true) only [go_sem, reduceIte, reduceCtorEq, n1, n2, n3, n4, n5, n6, reachMem, hba, reachCaps] at h
      simp (decide := true) only [go_sem, reduceIte, reduceCtorEq, n1, n2, n3, n4, n5, n6, callMem, h2, reachCaps]
      exact h
    · simp (decide := true) only [go_sem, reduceIte, reduceCtorEq, n1, n2, n3, n4, n5, n6, reachMem, hk, hk2] at h

theorem reachMem_call0 {l : List Ent} {kind : Int} {out : List Int} {bx : Mem} (h1 : bx 7 = some [[.own 7 1 (ints out)]]) (h2 : bx 8 = some [[.fv 47 (reachCaps l kind 7 8)]]) :
    ∀ k r, reachMem l kind out (7 + NB) (8 + NB) k = some r → callMem bx [7, 8] k = some r := fun k r h => by
  by_cases hk : k = 7 + NB
  · subst hk
    simp (decide := true) only [go_sem, reduceIte, reduceCtorEq, n1, n2, n3, n4, n5, n6, reachMem] at h
    simp (decide := true) only [go_sem, reduceIte, reduceCtorEq, n1, n2, n3, n4, n5, n6, callMem, h1]
    exact h
  · by_cases hk2 : k = 8 + NB
    · subst hk2
      simp (decide := true) only [go_sem, reduceIte, reduceCtorEq, n1, n2, n3, n4, n5, n6, reachMem, reachCaps] at h
      simp (decide := true) only [go_sem, reduceIte, reduceCtorEq, n1, n2, n3, n4, n5, n6, callMem, h2, reachCaps]
      exact h
    · simp (decide := true) only [go_sem, reduceIte, reduceCtorEq, n1, n2, n3, n4, n5, n6, reachMem, hk, hk2] at h

theorem nb_z : (NB = 0) = False := eq_false (by have := NB_big; omega)

/-- What the closure does when called for one entry. -/
def ReachC (l : List Ent) (kind : Int) (rec : Int → List Int → List Int) (a b : Nat) (id : Int) (out : List Int) : Prop :=
  ECalls Try.prog 47 [dv (li id), dv (.pt [.sl 8 (l.map Ent.enc)]), dv (.pt [li kind]), .one (.bx (a + NB) 1 0 0), .one (.bx (b + NB) 1 0 0)] (reachMem l kind out (a + NB) (b + NB))
      (fun r H' => r = .tup [] ∧ H' = reachMem l kind (rec id out) (a + NB) (b + NB))

set_option maxRecDepth 10000 in
set_option maxHeartbeats 8000000 in
--F47
theorem reach1_step (l : List Ent) (kind : Int) (hl : SmallE l) (m N : Nat) (ih : ∀ a b id out, a ≠ b → free l out < N → out.length + free l out ≤ 1000000 → ReachC l kind (dfs l kind m) a b id out) (a b : Nat) (hab : a ≠ b) (id : Int) (out : List Int)
    (hn : free l out ≤ N) (hb : out.length + free l out ≤ 1000000) : ReachC l kind (dfs l kind (m + 1)) a b id out := by
  unfold ReachC
  have hba : (b = a) = False := by simp [Ne.symm hab]
  have hab' : (a = b) = False := by simp [hab]
  have hlk := getE_links hl id
  have hmax : maxLen = 9223372036854775807 := rfl
  have hg := get_D l id hl.1
  have hdfs : dfs l kind (m + 1) id out = (getE l id).1.links.foldl (stepL l kind (dfs l kind m)) out := rfl
  rw [hdfs]
  obtain ⟨g, hge⟩ : ∃ g, g = (getE l id).1 := ⟨_, rfl⟩
  rw [← hge] at hg hlk ⊢
  refine ecalls (N := 53) (rs := []) (by kernel_rfl) Try.func47 rfl rfl rfl (by simp) ?_
  (repeat (first | (refine dw_seq ?_) | (refine dw_block ?_) | ((first | (refine dw_reg (N := 53) rfl (by kernel_rfl) ?_) | (refine dw_skip ?_) | (refine dw_exit ?_)); simp (decide := true) only [go_sem, reduceIte, reduceCtorEq, n1, n2, n3, n4, n5, n6, reachCaps, reachMem, hba, hab'])))
  (first | (refine CallC.mk (hg) (LeL.of_eq rfl) ?_) | (refine CallC.light (hg) (LeL.of_eq rfl) ?_)); simp (decide := true) only [go_sem, reduceIte, reduceCtorEq, n1, n2, n3, n4, n5, n6, reachCaps, reachMem, hba, hab', Ent.row]
  (repeat (first | (refine dw_seq ?_) | (refine dw_block ?_) | ((first | (refine dw_reg (N := 53) rfl (by kernel_rfl) ?_) | (refine dw_skip ?_) | (refine dw_exit ?_)); simp (decide := true) only [go_sem, reduceIte, reduceCtorEq, n1, n2, n3, n4, n5, n6, reachCaps, reachMem, hba, hab', Ent.row])))
  refine dw_rng0 g.links (fun k => kn 53 [(1, dv (.pt [.sl 8 (l.map Ent.enc)])), (2, dv (.pt [li kind])), (3, .one (.bx (a + NB) 1 0 0)), (4, .one (.bx (b + NB) 1 0 0)), (19, dv (.sl 2 (g.links.map Lnk.enc))), (20, dv (li g.links.length)), (21, dv (li k))] (reachMem l kind ((g.links.take k).foldl (stepL l kind (dfs l kind m)) out) (a + NB) (b + NB))) (by omega) (sub_ml rfl (by simp (decide := true) only [go_sem, reduceIte, reduceCtorEq, n1, n2, n3, n4, n5, n6]) (by simp (decide := true) only [go_sem, reduceIte, reduceCtorEq, n1, n2, n3, n4, n5, n6, reachCaps, reachMem, hba, hab', List.take_zero, List.foldl_nil])) ?_ ?_
  · intro k x hx hk hm htk hlt hw
    obtain ⟨cur, hcur⟩ : ∃ cur, cur = (g.links.take k).foldl (stepL l kind (dfs l kind m)) out := ⟨_, rfl⟩
    have hnx : (g.links.take (k + 1)).foldl (stepL l kind (dfs l kind m)) out = stepL l kind (dfs l kind m) cur x := by rw [htk, List.foldl_append, hcur]; rfl
    have hgr : Grow l out cur := by rw [hcur]; exact grow_fold (grow_dfs l kind m) _ _
    rw [← hcur, hnx]
    have hcl : cur.length ≤ 1000000 := by have := hgr.2; omega
    have hcc := containsI_D cur x.to (by omega)
    have hg2 := get_D l x.to hl.1
    cases h1 : x.kind != kind
    · cases h2 : cur.any fun y => x.to == y
      · cases h3 : (getE l x.to).2
        · rw [h3] at hg2
          obtain ⟨g2, hge2⟩ : ∃ g2, g2 = (getE l x.to).1 := ⟨_, rfl⟩
          rw [← hge2] at hg2
          (repeat' (first | (refine dw_seq ?_) | (refine dw_block ?_) | ((first | (refine dw_reg (N := 53) rfl (by kernel_rfl) ?_) | (refine dw_skip ?_) | (refine dw_exit ?_) | (refine CallC.mk (hcc) (LeL.of_eq rfl) ?_) | (refine CallC.light (hcc) (LeL.of_eq rfl) ?_) | (refine CallC.mk (hg2) (LeL.of_eq rfl) ?_) | (refine CallC.light (hg2) (LeL.of_eq rfl) ?_) | (refine dw_ret ?_)); simp (decide := true) only [go_sem, reduceIte, reduceCtorEq, n1, n2, n3, n4, n5, n6, hlt, hw, hx, h1, h2, h3, Lnk.enc, Ent.row, reachCaps, reachMem, hba, hab']) | (apply dw_cond; (simp (decide := true) only [go_sem, reduceIte, reduceCtorEq, n1, n2, n3, n4, n5, n6, hlt, hw, hx, h1, h2, h3, Lnk.enc, Ent.row, reachCaps, reachMem, hba, hab']; rfl); all_goals (intro hcnd; first | (exact absurd hcnd (by decide)) | skip)) | ((first | refine guardC_f ?_ ?_ | refine guardC_t ?_ ?_) <;> (intro hcnd; simp (decide := true) only [go_sem, reduceIte, reduceCtorEq, n1, n2, n3, n4, n5, n6, hcnd, hlt, hw, hx, h1, h2, h3, Lnk.enc, Ent.row, reachCaps, reachMem, hba, hab']))))
          exact sub_ml rfl (by simp (decide := true) only [go_sem, reduceIte, reduceCtorEq, n1, n2, n3, n4, n5, n6]) (by simp (decide := true) only [go_sem, reduceIte, reduceCtorEq, n1, n2, n3, n4, n5, n6, stepL, h1, h2, h3, hba, hab'])
        · rw [h3] at hg2
          have hfs := free_snoc h3 h2
          have hfr := hgr.1
          have hfl := hgr.2
          have hb8 : (cur.length + 1) * 8 ≤ 140737488355328 := by omega
          obtain ⟨g2, hge2⟩ : ∃ g2, g2 = (getE l x.to).1 := ⟨_, rfl⟩
          rw [← hge2] at hg2
          (repeat' (first | (refine dw_seq ?_) | (refine dw_block ?_) | ((first | (refine dw_reg (N := 53) rfl (by kernel_rfl) ?_) | (refine dw_skip ?_) | (refine dw_exit ?_) | (refine CallC.mk (hcc) (LeL.of_eq rfl) ?_) | (refine CallC.light (hcc) (LeL.of_eq rfl) ?_) | (refine CallC.mk (hg2) (LeL.of_eq rfl) ?_) | (refine CallC.light (hg2) (LeL.of_eq rfl) ?_) | (refine dw_ret ?_)); simp (decide := true) only [go_sem, reduceIte, reduceCtorEq, n1, n2, n3, n4, n5, n6, hlt, hw, hx, h1, h2, h3, hb8, Lnk.enc, Ent.row, reachCaps, reachMem, hba, hab']) | (apply dw_cond; (simp (decide := true) only [go_sem, reduceIte, reduceCtorEq, n1, n2, n3, n4, n5, n6, hlt, hw, hx, h1, h2, h3, hb8, Lnk.enc, Ent.row, reachCaps, reachMem, hba, hab']; rfl); all_goals (intro hcnd; first | (exact absurd hcnd (by decide)) | skip)) | ((first | refine guardC_f ?_ ?_ | refine guardC_t ?_ ?_) <;> (intro hcnd; simp (decide := true) only [go_sem, reduceIte, reduceCtorEq, n1, n2, n3, n4, n5, n6, hcnd, hlt, hw, hx, h1, h2, h3, hb8, Lnk.enc, Ent.row, reachCaps, reachMem, hba, hab']))))
          have hi := ih (a + NB) (b + NB) x.to (cur ++ [x.to]) (by omega) (by omega) (by simp; omega)
          unfold ReachC at hi
          have hia : ints (cur ++ [x.to]) = ints cur ++ [[li x.to]] := by simp
          refine CallC.eff [a + NB, b + NB] hi rfl (DLeL.of_eq (by simp (decide := true) only [go_sem, reduceIte, reduceCtorEq, n1, n2, n3, n4, n5, n6])) (reachMem_call hab (by simp (decide := true) only [go_sem, reduceIte, reduceCtorEq, n1, n2, n3, n4, n5, n6, hba, hab', hia]) (by simp (decide := true) only [go_sem, reduceIte, reduceCtorEq, n1, n2, n3, n4, n5, n6, hba, hab', reachCaps])) ⟨fun n hn => ?_, fun n hn => ?_⟩ ?_
          · simp only [List.mem_cons, List.not_mem_nil, or_false] at hn
            rcases hn with rfl | rfl <;> exact notmidNB (Nat.le_add_left _ _)
          · injection hn with hn; subst hn
            have := NB_big
            exact ⟨by simp; omega, by omega⟩
          rintro r H' ⟨rfl, rfl⟩
          simp (decide := true) only [go_sem, reduceIte, reduceCtorEq, n1, n2, n3, n4, n5, n6, callMemAft, reachMem, reachCaps, hba, hab']
          (repeat' (first | (refine dw_seq ?_) | (refine dw_block ?_) | ((first | (refine dw_reg (N := 53) rfl (by kernel_rfl) ?_) | (refine dw_skip ?_) | (refine dw_exit ?_)); simp (decide := true) only [go_sem, reduceIte, reduceCtorEq, n1, n2, n3, n4, n5, n6, hw, callMemAft, reachMem, reachCaps, hba, hab']) | (apply dw_cond; (simp (decide := true) only [go_sem, reduceIte, reduceCtorEq, n1, n2, n3, n4, n5, n6, hw, callMemAft, reachMem, reachCaps, hba, hab']; rfl); all_goals (intro hcnd; first | (exact absurd hcnd (by decide)) | skip)) | ((first | refine guardC_f ?_ ?_ | refine guardC_t ?_ ?_) <;> (intro hcnd; simp (decide := true) only [go_sem, reduceIte, reduceCtorEq, n1, n2, n3, n4, n5, n6, hcnd, hw, callMemAft, reachMem, reachCaps, hba, hab']))))
          exact sub_ml rfl (by simp (decide := true) only [go_sem, reduceIte, reduceCtorEq, n1, n2, n3, n4, n5, n6, callMemAft, reachMem, reachCaps, hba, hab']) (by simp (decide := true) only [go_sem, reduceIte, reduceCtorEq, n1, n2, n3, n4, n5, n6, callMemAft, reachMem, reachCaps, stepL, h1, h2, h3, hba, hab', nb_z])
      · (repeat' (first | (refine dw_seq ?_) | (refine dw_block ?_) | ((first | (refine dw_reg (N := 53) rfl (by kernel_rfl) ?_) | (refine dw_skip ?_) | (refine dw_exit ?_) | (refine CallC.mk (hcc) (LeL.of_eq rfl) ?_) | (refine CallC.light (hcc) (LeL.of_eq rfl) ?_) | (refine dw_ret ?_)); simp (decide := true) only [go_sem, reduceIte, reduceCtorEq, n1, n2, n3, n4, n5, n6, hlt, hw, hx, h1, h2, Lnk.enc, Ent.row, reachCaps, reachMem, hba, hab']) | (apply dw_cond; (simp (decide := true) only [go_sem, reduceIte, reduceCtorEq, n1, n2, n3, n4, n5, n6, hlt, hw, hx, h1, h2, Lnk.enc, Ent.row, reachCaps, reachMem, hba, hab']; rfl); all_goals (intro hcnd; first | (exact absurd hcnd (by decide)) | skip)) | ((first | refine guardC_f ?_ ?_ | refine guardC_t ?_ ?_) <;> (intro hcnd; simp (decide := true) only [go_sem, reduceIte, reduceCtorEq, n1, n2, n3, n4, n5, n6, hcnd, hlt, hw, hx, h1, h2, Lnk.enc, Ent.row, reachCaps, reachMem, hba, hab']))))
        exact sub_ml rfl (by simp (decide := true) only [go_sem, reduceIte, reduceCtorEq, n1, n2, n3, n4, n5, n6]) (by simp (decide := true) only [go_sem, reduceIte, reduceCtorEq, n1, n2, n3, n4, n5, n6, stepL, h1, h2, hba, hab'])
    · (repeat' (first | (refine dw_seq ?_) | (refine dw_block ?_) | ((first | (refine dw_reg (N := 53) rfl (by kernel_rfl) ?_) | (refine dw_skip ?_) | (refine dw_exit ?_) | (refine CallC.mk (hcc) (LeL.of_eq rfl) ?_) | (refine CallC.light (hcc) (LeL.of_eq rfl) ?_) | (refine dw_ret ?_)); simp (decide := true) only [go_sem, reduceIte, reduceCtorEq, n1, n2, n3, n4, n5, n6, hlt, hw, hx, h1, Lnk.enc, Ent.row, reachCaps, reachMem, hba, hab']) | (apply dw_cond; (simp (decide := true) only [go_sem, reduceIte, reduceCtorEq, n1, n2, n3, n4, n5, n6, hlt, hw, hx, h1, Lnk.enc, Ent.row, reachCaps, reachMem, hba, hab']; rfl); all_goals (intro hcnd; first | (exact absurd hcnd (by decide)) | skip)) | ((first | refine guardC_f ?_ ?_ | refine guardC_t ?_ ?_) <;> (intro hcnd; simp (decide := true) only [go_sem, reduceIte, reduceCtorEq, n1, n2, n3, n4, n5, n6, hcnd, hlt, hw, hx, h1, Lnk.enc, Ent.row, reachCaps, reachMem, hba, hab']))))
      exact sub_ml rfl (by simp (decide := true) only [go_sem, reduceIte, reduceCtorEq, n1, n2, n3, n4, n5, n6]) (by simp (decide := true) only [go_sem, reduceIte, reduceCtorEq, n1, n2, n3, n4, n5, n6, stepL, h1, hba, hab'])
  · intro hlt
    rw [List.take_length]
    (repeat' (first | (refine dw_seq ?_) | (refine dw_block ?_) | ((first | (refine dw_reg (N := 53) rfl (by kernel_rfl) ?_) | (refine dw_skip ?_) | (refine dw_exit ?_)); simp (decide := true) only [go_sem, reduceIte, reduceCtorEq, n1, n2, n3, n4, n5, n6, hlt, reachCaps, reachMem, hba, hab']) | (apply dw_cond; (simp (decide := true) only [go_sem, reduceIte, reduceCtorEq, n1, n2, n3, n4, n5, n6, hlt, reachCaps, reachMem, hba, hab']; rfl); all_goals (intro hcnd; first | (exact absurd hcnd (by decide)) | skip)) | ((first | refine guardC_f ?_ ?_ | refine guardC_t ?_ ?_) <;> (intro hcnd; simp (decide := true) only [go_sem, reduceIte, reduceCtorEq, n1, n2, n3, n4, n5, n6, hcnd, hlt, reachCaps, reachMem, hba, hab']))))
    rfl

theorem reach1_E (l : List Ent) (kind : Int) (hl : SmallE l) : ∀ (n : Nat) (a b : Nat) (id : Int) (out : List Int), a ≠ b → free l out ≤ n → out.length + free l out ≤ 1000000 → ReachC l kind (dfs l kind (n + 1)) a b id out
  | 0, a, b, id, out, hab, h1, h2 => reach1_step l kind hl 0 0 (fun _ _ _ _ _ h _ => absurd h (Nat.not_lt_zero _)) a b hab id out h1 h2
  | n + 1, a, b, id, out, hab, h1, h2 => reach1_step l kind hl (n + 1) (n + 1) (fun a b id out hab h1 h2 => reach1_E l kind hl n a b id out hab (by omega) h2) a b hab id out h1 h2

/-- What an entry reaches. -/
def reachL (l : List Ent) (id kind : Int) : List Int := dfs l kind (l.length + 1) id []
def reachK (l : List Ent) (id kind : Int) : List Int := usort (reachL l id kind)

theorem reachL_len (l : List Ent) (id kind : Int) : (reachL l id kind).length ≤ l.length := by
  have h := (grow_dfs l kind (l.length + 1) id []).2
  have h2 : free l [] ≤ l.length := List.countP_le_length
  simp only [reachL] at *
  simp at h; omega

set_option maxRecDepth 10000 in
set_option maxHeartbeats 8000000 in
--F25
theorem reach_D (l : List Ent) (id kind : Int) (hl : SmallE l) : DCalls Try.prog 25 [dv (.sl 8 (l.map Ent.enc)), dv (li id), dv (li kind)] (dv (.sl 1 (ints (reachK l id kind)))) := by
  have hfree : free l [] ≤ l.length := List.countP_le_length
  have hlen := hl.1
  have hrl := reachL_len l id kind
  refine dcalls (N := 15) (rs := [.tmp 6]) (by kernel_rfl) Try.func25 rfl rfl rfl (by simp) ?_
  (repeat (first | (refine dw_seq ?_) | (refine dw_block ?_) | ((first | (refine dw_reg (N := 15) rfl (by kernel_rfl) ?_) | (refine dw_skip ?_) | (refine dw_exit ?_)); simp (decide := true) only [go_sem, reduceIte, reduceCtorEq, n1, n2, n3, n4, n5, n6])))
  refine CallC.frz 3 [.sl 8 (l.map Ent.enc)] (by simp) (by simp (decide := true) only [go_sem, reduceIte, reduceCtorEq, n1, n2, n3, n4, n5, n6]) ?_
  simp (decide := true) only [go_sem, reduceIte, reduceCtorEq, n1, n2, n3, n4, n5, n6]
  refine CallC.frz 5 [li kind] (by simp) (by simp (decide := true) only [go_sem, reduceIte, reduceCtorEq, n1, n2, n3, n4, n5, n6]) ?_
  simp (decide := true) only [go_sem, reduceIte, reduceCtorEq, n1, n2, n3, n4, n5, n6]
  refine CallC.sub (sub_ownAt 7 0 0 7 1 [] (rows := [[.ex 1 []]]) (r := [.ex 1 []]) (by simp (decide := true) only [go_sem, reduceIte, reduceCtorEq, n1, n2, n3, n4, n5, n6]) rfl rfl) rfl ?_
  simp (decide := true) only [go_sem, reduceIte, reduceCtorEq, n1, n2, n3, n4, n5, n6]
  have hr := reach1_E l kind hl l.length 7 8 id [] (by decide) hfree (by simp; omega)
  unfold ReachC at hr
  refine CallC.eff [7, 8] hr rfl (DLeL.of_eq (by simp (decide := true) only [go_sem, reduceIte, reduceCtorEq, n1, n2, n3, n4, n5, n6])) (reachMem_call0 (by simp (decide := true) only [go_sem, reduceIte, reduceCtorEq, n1, n2, n3, n4, n5, n6]) (by simp (decide := true) only [go_sem, reduceIte, reduceCtorEq, n1, n2, n3, n4, n5, n6, reachCaps])) (by constructor <;> simp [mid]) ?_
  rintro r H' ⟨rfl, rfl⟩
  simp (decide := true) only [go_sem, reduceIte, reduceCtorEq, n1, n2, n3, n4, n5, n6, callMemAft, reachMem, reachCaps]
  (repeat' (first | (refine dw_seq ?_) | (refine dw_block ?_) | ((first | (refine dw_reg (N := 15) rfl (by kernel_rfl) ?_) | (refine dw_skip ?_) | (refine dw_exit ?_) | (refine CallC.mk (sorted_D (dfs l kind (l.length + 1) id []) (by simp only [reachL] at hrl; omega)) (LeL.of_eq rfl) ?_) | (refine CallC.light (sorted_D (dfs l kind (l.length + 1) id []) (by simp only [reachL] at hrl; omega)) (LeL.of_eq rfl) ?_) | (refine dw_ret ?_)); simp (decide := true) only [go_sem, reduceIte, reduceCtorEq, n1, n2, n3, n4, n5, n6, callMemAft, reachMem, reachCaps]) | (apply dw_cond; (simp (decide := true) only [go_sem, reduceIte, reduceCtorEq, n1, n2, n3, n4, n5, n6, callMemAft, reachMem, reachCaps]; rfl); all_goals (intro hcnd; first | (exact absurd hcnd (by decide)) | skip)) | ((first | refine guardC_f ?_ ?_ | refine guardC_t ?_ ?_) <;> (intro hcnd; simp (decide := true) only [go_sem, reduceIte, reduceCtorEq, n1, n2, n3, n4, n5, n6, hcnd, callMemAft, reachMem, reachCaps]))))
  rfl
end Go.Proofs.Ytiecekikcegnmaa

/- What an entry reaches, by the reference. -/
namespace Go.Proofs.Ytiecekikcegnmaa
open Go.Dl
attribute [local irreducible] DW DCalls ECalls wk IW

def idR : Int → List Int → List Int := fun _ o => o
/-- The links of one entry. -/
def bfsIn (l : List Ent) (kind : Int) (S : List Int) (id : Int) : List Int := (getE l id).1.links.foldl (stepL l kind idR) S
/-- All that is met behind n rounds, and what was met in the last one. -/
def bfsN (l : List Ent) (id kind : Int) : Nat → List Int × List Int
  | 0 => ([], [id])
  | n + 1 => ((bfsN l id kind n).2.foldl (bfsIn l kind) (bfsN l id kind n).1, ((bfsN l id kind n).2.foldl (bfsIn l kind) (bfsN l id kind n).1).drop (bfsN l id kind n).1.length)
def metIn (S : List Int) (e : Ent) : Bool := S.any fun y => e.id == y
def reachR (l : List Ent) (id kind : Int) : List Int := (l.filter (metIn (bfsN l id kind (l.length + 1)).1)).map (·.id)

def mRows (l : List Ent) (S : List Int) : Dl.Rows := l.map fun e => [T.c (lb (metIn S e))]
theorem mRows_tr (r : Ren) (l : List Ent) (S : List Int) : Dl.Rows.tr r (mRows l S) = mRows l S := by simp [mRows, Dl.Rows.tr, T.trAll, T.tr]
attribute [go_sem] mRows_tr

def Distinct (l : List Ent) : Prop := (l.map (·.id)).Pairwise (· ≠ ·)

theorem distinct_at {l : List Ent} (h : Distinct l) {i j : Nat} {x y : Ent} (hx : l[i]? = some x) (hy : l[j]? = some y) (hij : i ≠ j) : x.id ≠ y.id := by
  obtain ⟨hi, rfl⟩ := List.getElem?_eq_some_iff.1 hx
  obtain ⟨hj, rfl⟩ := List.getElem?_eq_some_iff.1 hy
  have hp := List.pairwise_iff_getElem.1 h
  rcases Nat.lt_or_ge i j with h1 | h1
  · have := hp i j (by simpa using hi) (by simpa using hj) h1
    simpa using this
  · have := hp j i (by simpa using hj) (by simpa using hi) (by omega)
    simpa using Ne.symm this

theorem mRows_set {l : List Ent} (h : Distinct l) {S : List Int} {j : Nat} {e : Ent} (he : l[j]? = some e) : (mRows l S).set j [T.c (lb true)] = mRows l (S ++ [e.id]) := by
  apply List.ext_getElem?
  intro i
  rw [List.getElem?_set]
  split
  · rename_i hji
    subst hji
    have hlt := (List.getElem?_eq_some_iff.1 he).1
    simp [mRows, hlt, metIn, (List.getElem?_eq_some_iff.1 he).2]
  · rename_i hji
    simp only [mRows, List.getElem?_map]
    cases hi : l[i]? with
    | none => rfl
    | some x =>
      have := distinct_at h hi he (Ne.symm hji)
      simp [metIn, this]

theorem mRows_at {l : List Ent} {S : List Int} {j : Nat} {e : Ent} (he : l[j]? = some e) : (mRows l S)[j]? = some [T.c (lb (S.any fun y => e.id == y))] := by
  simp [mRows, he, metIn]

theorem grow_id (l : List Ent) : ∀ (id : Int) (out : List Int), Grow l out (idR id out) := fun _ out => Grow.refl l out

/-- Only more is met. -/
theorem pre_step (l : List Ent) (kind : Int) (S : List Int) (x : Lnk) : S <+: stepL l kind idR S x := by
  unfold stepL idR
  split
  · exact List.prefix_refl _
  · split
    · exact List.prefix_append _ _
    · exact List.prefix_refl _
theorem pre_fold (l : List Ent) (kind : Int) : ∀ (xs : List Lnk) (S : List Int), S <+: xs.foldl (stepL l kind idR) S
  | [], S => List.prefix_refl _
  | x :: xs, S => (pre_step l kind S x).trans (pre_fold l kind xs _)
theorem pre_in (l : List Ent) (kind : Int) (S : List Int) (id : Int) : S <+: bfsIn l kind S id := pre_fold l kind _ S
theorem pre_ins (l : List Ent) (kind : Int) : ∀ (ids : List Int) (S : List Int), S <+: ids.foldl (bfsIn l kind) S
  | [], S => List.prefix_refl _
  | x :: xs, S => (pre_in l kind S x).trans (pre_ins l kind xs _)
theorem grow_ins (l : List Ent) (kind : Int) : ∀ (ids : List Int) (S : List Int), Grow l S (ids.foldl (bfsIn l kind) S)
  | [], S => Grow.refl l S
  | x :: xs, S => (grow_fold (grow_id l) _ S).trans (grow_ins l kind xs _)
theorem grow_bfs (l : List Ent) (id kind : Int) : ∀ n, Grow l [] (bfsN l id kind n).1
  | 0 => Grow.refl l []
  | n + 1 => (grow_bfs l id kind n).trans (grow_ins l kind _ _)
theorem grow_len {l : List Ent} {S : List Int} (h : Grow l [] S) : S.length ≤ l.length := by
  have h1 := h.2
  have h2 : free l [] ≤ l.length := List.countP_le_length
  simp at h1; omega

set_option maxRecDepth 10000 in
set_option maxHeartbeats 8000000 in
--F26
theorem rReach_D (l : List Ent) (id kind : Int) (hl : SmallE l) (hd : Distinct l) : DCalls Try.prog 26 [dv (.sl 8 (l.map Ent.enc)), dv (li id), dv (li kind)] (dv (.sl 1 (ints (reachR l id kind)))) := by
  have hmax : maxLen = 9223372036854775807 := rfl
  have hlen := hl.1
  have hb4 : Try.t4.bytes * l.length ≤ 281474976710656 := by
    have : Try.t4.bytes = 1 := by kernel_rfl
    rw [this]; omega
  have hrep : List.replicate l.length [T.c (lb false)] = mRows l [] := by
    simp [mRows, metIn, List.map_const']
  refine dcalls (N := 110) (rs := [.tmp 6]) (by kernel_rfl) Try.func26 rfl rfl rfl (by simp) ?_
  (repeat' (first | (refine dw_seq ?_) | (refine dw_block ?_) | ((first | (refine dw_reg (N := 110) rfl (by kernel_rfl) ?_) | (refine dw_skip ?_) | (refine dw_exit ?_)); simp (decide := true) only [go_sem, reduceIte, reduceCtorEq, n1, n2, n3, n4, n5, n6]) | (apply dw_cond; (simp (decide := true) only [go_sem, reduceIte, reduceCtorEq, n1, n2, n3, n4, n5, n6]; rfl); all_goals (intro hcnd; first | (exact absurd hcnd (by decide)) | skip)) | ((first | refine guardC_f ?_ ?_ | refine guardC_t ?_ ?_) <;> (intro hcnd; simp (decide := true) only [go_sem, reduceIte, reduceCtorEq, n1, n2, n3, n4, n5, n6, hcnd]))))
  refine StepC.mk (Step.makeSlice (n := l.length) (e := 4) (z := [T.c (lb false)]) (inf := Try.t4) (kx := .i64) (ky := .i64) rfl rfl (by kernel_rfl) (by kernel_rfl) (by kernel_rfl) (by decide) (by kernel_rfl) (by simp (decide := true) only [go_sem, reduceIte, reduceCtorEq, n1, n2, n3, n4, n5, n6]) (by simp (decide := true) only [go_sem, reduceIte, reduceCtorEq, n1, n2, n3, n4, n5, n6]) (by simp; omega) hb4 (by omega) ?_)
  rw [hrep]
  simp (decide := true) only [go_sem, reduceIte, reduceCtorEq, n1, n2, n3, n4, n5, n6]
  (repeat' (first | (refine dw_seq ?_) | (refine dw_block ?_) | ((first | (refine dw_reg (N := 110) rfl (by kernel_rfl) ?_) | (refine dw_skip ?_) | (refine dw_exit ?_)); simp (decide := true) only [go_sem, reduceIte, reduceCtorEq, n1, n2, n3, n4, n5, n6]) | (apply dw_cond; (simp (decide := true) only [go_sem, reduceIte, reduceCtorEq, n1, n2, n3, n4, n5, n6]; rfl); all_goals (intro hcnd; first | (exact absurd hcnd (by decide)) | skip)) | ((first | refine guardC_f ?_ ?_ | refine guardC_t ?_ ?_) <;> (intro hcnd; simp (decide := true) only [go_sem, reduceIte, reduceCtorEq, n1, n2, n3, n4, n5, n6, hcnd]))))
  refine dw_after (fun _ : Unit => kn 110 [(0, dv (.sl 8 (l.map Ent.enc))), (7, .one (.ba 20 1 0 l.length l.length))] (ml [(20, mRows l (bfsN l id kind (l.length + 1)).1)])) (fun _ => True) ?_ ?_
  · refine dw_loop_fam (fun r : Nat => kn 110 [(0, dv (.sl 8 (l.map Ent.enc))), (2, dv (li kind)), (7, .one (.ba 20 1 0 l.length l.length)), (8, dv (.sl 1 (ints (bfsN l id kind r).2))), (9, dv (li r))] (ml [(20, mRows l (bfsN l id kind r).1)])) (fun r => r ≤ l.length + 1) (fun r => l.length + 1 - r) 0
      (sub_ml rfl (by simp (decide := true) only [go_sem, reduceIte, reduceCtorEq, n1, n2, n3, n4, n5, n6, bfsN, ints]) (by simp (decide := true) only [go_sem, reduceIte, reduceCtorEq, n1, n2, n3, n4, n5, n6, bfsN])) (by omega) ?_
    intro r hr
    cases hrl : decide ((r : Int) ≤ (l.length : Int))
    · have hre : r = l.length + 1 := by simp at hrl; omega
      (repeat' (first | (refine dw_seq ?_) | (refine dw_block ?_) | ((first | (refine dw_reg (N := 110) rfl (by kernel_rfl) ?_) | (refine dw_skip ?_) | (refine dw_exit ?_)); simp (decide := true) only [go_sem, reduceIte, reduceCtorEq, n1, n2, n3, n4, n5, n6, hrl]) | (apply dw_cond; (simp (decide := true) only [go_sem, reduceIte, reduceCtorEq, n1, n2, n3, n4, n5, n6, hrl]; rfl); all_goals (intro hcnd; first | (exact absurd hcnd (by decide)) | skip)) | ((first | refine guardC_f ?_ ?_ | refine guardC_t ?_ ?_) <;> (intro hcnd; simp (decide := true) only [go_sem, reduceIte, reduceCtorEq, n1, n2, n3, n4, n5, n6, hcnd, hrl]))))
      first
        | exact ⟨(), trivial, sub_ml rfl (by simp (decide := true) only [go_sem, reduceIte, reduceCtorEq, n1, n2, n3, n4, n5, n6]) (by simp (decide := true) only [go_sem, reduceIte, reduceCtorEq, n1, n2, n3, n4, n5, n6, hre])⟩
        | exact ⟨(), sub_ml rfl (by simp (decide := true) only [go_sem, reduceIte, reduceCtorEq, n1, n2, n3, n4, n5, n6]) (by simp (decide := true) only [go_sem, reduceIte, reduceCtorEq, n1, n2, n3, n4, n5, n6, hre])⟩
    have hwr := wrap_succ r (by omega)
    obtain ⟨S, hS⟩ : ∃ S, S = (bfsN l id kind r).1 := ⟨_, rfl⟩
    obtain ⟨nx, hnx⟩ : ∃ nx, nx = (bfsN l id kind r).2 := ⟨_, rfl⟩
    have hg0 : Grow l [] S := hS ▸ grow_bfs l id kind r
    have hS1 : (bfsN l id kind (r + 1)).1 = nx.foldl (bfsIn l kind) S := by rw [hS, hnx]; rfl
    have hS2 : (bfsN l id kind (r + 1)).2 = (nx.foldl (bfsIn l kind) S).drop S.length := by rw [hS, hnx]; rfl
    have hnl : nx.length ≤ 1000000 := by
      rw [hnx]
      cases r with
      | zero => simp [bfsN]
      | succ r =>
        have h1 := grow_len (grow_bfs l id kind (r + 1))
        have h2 : (bfsN l id kind (r + 1)).2 = ((bfsN l id kind (r + 1)).1).drop (bfsN l id kind r).1.length := rfl
        rw [h2]; simp; omega
    rw [← hS, ← hnx]
    (repeat' (first | (refine dw_seq ?_) | (refine dw_block ?_) | ((first | (refine dw_reg (N := 110) rfl (by kernel_rfl) ?_) | (refine dw_skip ?_) | (refine dw_exit ?_)); simp (decide := true) only [go_sem, reduceIte, reduceCtorEq, n1, n2, n3, n4, n5, n6, hrl]) | (apply dw_cond; (simp (decide := true) only [go_sem, reduceIte, reduceCtorEq, n1, n2, n3, n4, n5, n6, hrl]; rfl); all_goals (intro hcnd; first | (exact absurd hcnd (by decide)) | skip)) | ((first | refine guardC_f ?_ ?_ | refine guardC_t ?_ ?_) <;> (intro hcnd; simp (decide := true) only [go_sem, reduceIte, reduceCtorEq, n1, n2, n3, n4, n5, n6, hcnd, hrl]))))
    refine dw_own 10 10 1 (by simp (decide := true) only [go_sem, reduceIte, reduceCtorEq, n1, n2, n3, n4, n5, n6]) ?_
    refine dw_rng0 nx (fun k => kn 110 [(0, dv (.sl 8 (l.map Ent.enc))), (2, dv (li kind)), (7, .one (.ba 20 1 0 l.length l.length)), (8, dv (.sl 1 (ints nx))), (9, dv (li r)), (10, .one (.own 10 1 (ints (((nx.take k).foldl (bfsIn l kind) S).drop S.length)))), (11, dv (li k))] (ml [(20, mRows l ((nx.take k).foldl (bfsIn l kind) S))])) (by omega)
      (sub_ml rfl (by simp (decide := true) only [go_sem, reduceIte, reduceCtorEq, n1, n2, n3, n4, n5, n6, List.take_zero, List.foldl_nil, List.drop_length, ints]) (by simp (decide := true) only [go_sem, reduceIte, reduceCtorEq, n1, n2, n3, n4, n5, n6, List.take_zero, List.foldl_nil])) ?_ ?_
    · intro k nid hk hkl hkm htk hlt hw
      obtain ⟨Sk, hSk⟩ : ∃ Sk, Sk = (nx.take k).foldl (bfsIn l kind) S := ⟨_, rfl⟩
      have hSk1 : (nx.take (k + 1)).foldl (bfsIn l kind) S = bfsIn l kind Sk nid := by rw [htk, List.foldl_append, hSk]; rfl
      have hgk : Grow l [] Sk := hSk ▸ hg0.trans (grow_ins l kind _ _)
      have hpk : S <+: Sk := hSk ▸ pre_ins l kind _ _
      rw [← hSk, hSk1]
      have hxi := ints_at hk
      have hfd := rFind_D l nid hl.1
      cases hf : l.find? (fun e => e.id == nid) with
      | none =>
        rw [idxF_no (find_nex hf)] at hfd
        have hb : bfsIn l kind Sk nid = Sk := by simp [bfsIn, getE, hf, noEnt]
        rw [hb]
        (repeat' (first | (refine dw_seq ?_) | (refine dw_block ?_) | ((first | (refine dw_reg (N := 110) rfl (by kernel_rfl) ?_) | (refine dw_skip ?_) | (refine dw_exit ?_) | (refine CallC.mk (hfd) (LeL.of_eq rfl) ?_) | (refine CallC.light (hfd) (LeL.of_eq rfl) ?_) | (refine dw_ret ?_)); simp (decide := true) only [go_sem, reduceIte, reduceCtorEq, n1, n2, n3, n4, n5, n6, hlt, hw, hxi]) | (apply dw_cond; (simp (decide := true) only [go_sem, reduceIte, reduceCtorEq, n1, n2, n3, n4, n5, n6, hlt, hw, hxi]; rfl); all_goals (intro hcnd; first | (exact absurd hcnd (by decide)) | skip)) | ((first | refine guardC_f ?_ ?_ | refine guardC_t ?_ ?_) <;> (intro hcnd; simp (decide := true) only [go_sem, reduceIte, reduceCtorEq, n1, n2, n3, n4, n5, n6, hcnd, hlt, hw, hxi]))))
        refine dw_rng0 ([] : List Lnk) (fun j => kn 110 [(0, dv (.sl 8 (l.map Ent.enc))), (2, dv (li kind)), (7, .one (.ba 20 1 0 l.length l.length)), (8, dv (.sl 1 (ints nx))), (9, dv (li r)), (10, .one (.own 10 1 (ints (Sk.drop S.length)))), (11, dv (li k)), (12, dv (li (-1)))] (ml [(20, mRows l Sk)])) (by simp)
          (sub_ml rfl (by simp (decide := true) only [go_sem, reduceIte, reduceCtorEq, n1, n2, n3, n4, n5, n6]) (by simp (decide := true) only [go_sem, reduceIte, reduceCtorEq, n1, n2, n3, n4, n5, n6])) (fun j x hx => by simp at hx) ?_
        intro _
        have hm1 : decide ((0 : Int) ≤ -1) = false := by decide
        (repeat' (first | (refine dw_seq ?_) | (refine dw_block ?_) | ((first | (refine dw_reg (N := 110) rfl (by kernel_rfl) ?_) | (refine dw_skip ?_) | (refine dw_exit ?_)); simp (decide := true) only [go_sem, reduceIte, reduceCtorEq, n1, n2, n3, n4, n5, n6, hm1, hw]) | (apply dw_cond; (simp (decide := true) only [go_sem, reduceIte, reduceCtorEq, n1, n2, n3, n4, n5, n6, hm1, hw]; rfl); all_goals (intro hcnd; first | (exact absurd hcnd (by decide)) | skip)) | ((first | refine guardC_f ?_ ?_ | refine guardC_t ?_ ?_) <;> (intro hcnd; simp (decide := true) only [go_sem, reduceIte, reduceCtorEq, n1, n2, n3, n4, n5, n6, hcnd, hm1, hw]))))
        exact sub_ml rfl (by simp (decide := true) only [go_sem, reduceIte, reduceCtorEq, n1, n2, n3, n4, n5, n6]) (by simp (decide := true) only [go_sem, reduceIte, reduceCtorEq, n1, n2, n3, n4, n5, n6])
      | some e =>
        obtain ⟨i, hi, hii, hiq⟩ := find_ex hf
        rw [idxF_at hi hii hiq] at hfd
        have hb : bfsIn l kind Sk nid = e.links.foldl (stepL l kind idR) Sk := by simp [bfsIn, getE, hf]
        have hel : e.links.length ≤ 1000000 := hl.2 e (List.mem_of_getElem? hi)
        have h0i : decide ((0 : Int) ≤ (i : Int)) = true := by simp
        have hil : i < l.length := (List.getElem?_eq_some_iff.1 hi).1
        rw [hb]
        (repeat' (first | (refine dw_seq ?_) | (refine dw_block ?_) | ((first | (refine dw_reg (N := 110) rfl (by kernel_rfl) ?_) | (refine dw_skip ?_) | (refine dw_exit ?_) | (refine CallC.mk (hfd) (LeL.of_eq rfl) ?_) | (refine CallC.light (hfd) (LeL.of_eq rfl) ?_) | (refine dw_ret ?_)); simp (decide := true) only [go_sem, reduceIte, reduceCtorEq, n1, n2, n3, n4, n5, n6, hlt, hw, hxi]) | (apply dw_cond; (simp (decide := true) only [go_sem, reduceIte, reduceCtorEq, n1, n2, n3, n4, n5, n6, hlt, hw, hxi]; rfl); all_goals (intro hcnd; first | (exact absurd hcnd (by decide)) | skip)) | ((first | refine guardC_f ?_ ?_ | refine guardC_t ?_ ?_) <;> (intro hcnd; simp (decide := true) only [go_sem, reduceIte, reduceCtorEq, n1, n2, n3, n4, n5, n6, hcnd, hlt, hw, hxi]))))
        refine dw_rng0 e.links (fun j => kn 110 [(0, dv (.sl 8 (l.map Ent.enc))), (2, dv (li kind)), (7, .one (.ba 20 1 0 l.length l.length)), (8, dv (.sl 1 (ints nx))), (9, dv (li r)), (10, .one (.own 10 1 (ints (((e.links.take j).foldl (stepL l kind idR) Sk).drop S.length)))), (11, dv (li k)), (12, dv (li i)), (13, dv (li j))] (ml [(20, mRows l ((e.links.take j).foldl (stepL l kind idR) Sk))])) (by omega)
          (sub_ml rfl (by simp (decide := true) only [go_sem, reduceIte, reduceCtorEq, n1, n2, n3, n4, n5, n6, List.take_zero, List.foldl_nil]) (by simp (decide := true) only [go_sem, reduceIte, reduceCtorEq, n1, n2, n3, n4, n5, n6, List.take_zero, List.foldl_nil])) ?_ ?_
        · intro j x hx hj hjm htj hltj hwj
          obtain ⟨cur, hcur⟩ : ∃ cur, cur = (e.links.take j).foldl (stepL l kind idR) Sk := ⟨_, rfl⟩
          have hc1 : (e.links.take (j + 1)).foldl (stepL l kind idR) Sk = stepL l kind idR cur x := by rw [htj, List.foldl_append, hcur]; rfl
          have hgc : Grow l [] cur := hcur ▸ hgk.trans (grow_fold (grow_id l) _ _)
          have hpc : S <+: cur := hpk.trans (hcur ▸ pre_fold l kind _ _)
          have hcl := grow_len hgc
          have hsl : S.length ≤ cur.length := hpc.length_le
          rw [← hcur, hc1]
          have hfx := rFind_D l x.to hl.1
          cases h1 : x.kind == kind
          · have h1' : (x.kind != kind) = true := by simp [bne, h1]
            have hst : stepL l kind idR cur x = cur := by simp [stepL, h1']
            rw [hst]
            (repeat' (first | (refine dw_seq ?_) | (refine dw_block ?_) | ((first | (refine dw_reg (N := 110) rfl (by kernel_rfl) ?_) | (refine dw_skip ?_) | (refine dw_exit ?_) | (refine CallC.mk (hfx) (LeL.of_eq rfl) ?_) | (refine CallC.light (hfx) (LeL.of_eq rfl) ?_) | (refine dw_ret ?_)); simp (decide := true) only [go_sem, reduceIte, reduceCtorEq, n1, n2, n3, n4, n5, n6, hltj, hwj, hi, hx, h0i, h1, Ent.enc, Lnk.enc]) | (apply dw_cond; (simp (decide := true) only [go_sem, reduceIte, reduceCtorEq, n1, n2, n3, n4, n5, n6, hltj, hwj, hi, hx, h0i, h1, Ent.enc, Lnk.enc]; rfl); all_goals (intro hcnd; first | (exact absurd hcnd (by decide)) | skip)) | ((first | refine guardC_f ?_ ?_ | refine guardC_t ?_ ?_) <;> (intro hcnd; simp (decide := true) only [go_sem, reduceIte, reduceCtorEq, n1, n2, n3, n4, n5, n6, hcnd, hltj, hwj, hi, hx, h0i, h1, Ent.enc, Lnk.enc]))))
            exact sub_ml rfl (by simp (decide := true) only [go_sem, reduceIte, reduceCtorEq, n1, n2, n3, n4, n5, n6]) (by simp (decide := true) only [go_sem, reduceIte, reduceCtorEq, n1, n2, n3, n4, n5, n6])
          · have h1' : (x.kind != kind) = false := by simp [bne, h1]
            cases hf2 : l.find? (fun e => e.id == x.to) with
            | none =>
              rw [idxF_no (find_nex hf2)] at hfx
              have hst : stepL l kind idR cur x = cur := by simp [stepL, getE, hf2]
              have hm1 : decide ((0 : Int) ≤ -1) = false := by decide
              rw [hst]
              (repeat' (first | (refine dw_seq ?_) | (refine dw_block ?_) | ((first | (refine dw_reg (N := 110) rfl (by kernel_rfl) ?_) | (refine dw_skip ?_) | (refine dw_exit ?_) | (refine CallC.mk (hfx) (LeL.of_eq rfl) ?_) | (refine CallC.light (hfx) (LeL.of_eq rfl) ?_) | (refine dw_ret ?_)); simp (decide := true) only [go_sem, reduceIte, reduceCtorEq, n1, n2, n3, n4, n5, n6, hltj, hwj, hi, hx, h0i, h1, hm1, Ent.enc, Lnk.enc]) | (apply dw_cond; (simp (decide := true) only [go_sem, reduceIte, reduceCtorEq, n1, n2, n3, n4, n5, n6, hltj, hwj, hi, hx, h0i, h1, hm1, Ent.enc, Lnk.enc]; rfl); all_goals (intro hcnd; first | (exact absurd hcnd (by decide)) | skip)) | ((first | refine guardC_f ?_ ?_ | refine guardC_t ?_ ?_) <;> (intro hcnd; simp (decide := true) only [go_sem, reduceIte, reduceCtorEq, n1, n2, n3, n4, n5, n6, hcnd, hltj, hwj, hi, hx, h0i, h1, hm1, Ent.enc, Lnk.enc]))))
              exact sub_ml rfl (by simp (decide := true) only [go_sem, reduceIte, reduceCtorEq, n1, n2, n3, n4, n5, n6]) (by simp (decide := true) only [go_sem, reduceIte, reduceCtorEq, n1, n2, n3, n4, n5, n6])
            | some e2 =>
              obtain ⟨i2, hi2, hii2, hiq2⟩ := find_ex hf2
              rw [idxF_at hi2 hii2 hiq2] at hfx
              have he2 : e2.id = x.to := by simpa using hiq2
              have h0i2 : decide ((0 : Int) ≤ (i2 : Int)) = true := by simp
              have hil2 : i2 < l.length := (List.getElem?_eq_some_iff.1 hi2).1
              have hma := mRows_at (S := cur) hi2
              have hms := mRows_set hd (S := cur) hi2
              rw [he2] at hma hms
              cases h3 : cur.any fun y => x.to == y
              · have hst : stepL l kind idR cur x = cur ++ [x.to] := by simp [stepL, h1', h3, getE, hf2, idR]
                have hdr : (cur ++ [x.to]).drop S.length = cur.drop S.length ++ [x.to] := List.drop_append_of_le_length hsl
                have hdl : (cur.drop S.length).length ≤ 1000000 := by simp; omega
                have hb8 : ((cur.drop S.length).length + 1) * 8 ≤ 140737488355328 := by omega
                rw [hst]
                (repeat' (first | (refine dw_seq ?_) | (refine dw_block ?_) | ((first | (refine dw_reg (N := 110) rfl (by kernel_rfl) ?_) | (refine dw_skip ?_) | (refine dw_exit ?_) | (refine CallC.mk (hfx) (LeL.of_eq rfl) ?_) | (refine CallC.light (hfx) (LeL.of_eq rfl) ?_) | (refine dw_ret ?_)); simp (decide := true) only [go_sem, reduceIte, reduceCtorEq, n1, n2, n3, n4, n5, n6, hltj, hwj, hi, hx, h0i, h1, h0i2, hil2, hma, h3, hms, hb8, Ent.enc, Lnk.enc]) | (apply dw_cond; (simp (decide := true) only [go_sem, reduceIte, reduceCtorEq, n1, n2, n3, n4, n5, n6, hltj, hwj, hi, hx, h0i, h1, h0i2, hil2, hma, h3, hms, hb8, Ent.enc, Lnk.enc]; rfl); all_goals (intro hcnd; first | (exact absurd hcnd (by decide)) | skip)) | ((first | refine guardC_f ?_ ?_ | refine guardC_t ?_ ?_) <;> (intro hcnd; simp (decide := true) only [go_sem, reduceIte, reduceCtorEq, n1, n2, n3, n4, n5, n6, hcnd, hltj, hwj, hi, hx, h0i, h1, h0i2, hil2, hma, h3, hms, hb8, Ent.enc, Lnk.enc]))))
                exact sub_ml rfl (by simp (decide := true) only [go_sem, reduceIte, reduceCtorEq, n1, n2, n3, n4, n5, n6, hdr, ints, List.map_append]) (by simp (decide := true) only [go_sem, reduceIte, reduceCtorEq, n1, n2, n3, n4, n5, n6])
              · have hst : stepL l kind idR cur x = cur := by simp [stepL, h1', h3]
                rw [hst]
                (repeat' (first | (refine dw_seq ?_) | (refine dw_block ?_) | ((first | (refine dw_reg (N := 110) rfl (by kernel_rfl) ?_) | (refine dw_skip ?_) | (refine dw_exit ?_) | (refine CallC.mk (hfx) (LeL.of_eq rfl) ?_) | (refine CallC.light (hfx) (LeL.of_eq rfl) ?_) | (refine dw_ret ?_)); simp (decide := true) only [go_sem, reduceIte, reduceCtorEq, n1, n2, n3, n4, n5, n6, hltj, hwj, hi, hx, h0i, h1, h0i2, hil2, hma, h3, Ent.enc, Lnk.enc]) | (apply dw_cond; (simp (decide := true) only [go_sem, reduceIte, reduceCtorEq, n1, n2, n3, n4, n5, n6, hltj, hwj, hi, hx, h0i, h1, h0i2, hil2, hma, h3, Ent.enc, Lnk.enc]; rfl); all_goals (intro hcnd; first | (exact absurd hcnd (by decide)) | skip)) | ((first | refine guardC_f ?_ ?_ | refine guardC_t ?_ ?_) <;> (intro hcnd; simp (decide := true) only [go_sem, reduceIte, reduceCtorEq, n1, n2, n3, n4, n5, n6, hcnd, hltj, hwj, hi, hx, h0i, h1, h0i2, hil2, hma, h3, Ent.enc, Lnk.enc]))))
                exact sub_ml rfl (by simp (decide := true) only [go_sem, reduceIte, reduceCtorEq, n1, n2, n3, n4, n5, n6]) (by simp (decide := true) only [go_sem, reduceIte, reduceCtorEq, n1, n2, n3, n4, n5, n6])
        · intro hltj
          rw [List.take_length]
          (repeat' (first | (refine dw_seq ?_) | (refine dw_block ?_) | ((first | (refine dw_reg (N := 110) rfl (by kernel_rfl) ?_) | (refine dw_skip ?_) | (refine dw_exit ?_)); simp (decide := true) only [go_sem, reduceIte, reduceCtorEq, n1, n2, n3, n4, n5, n6, hltj, hw, hi, h0i, Ent.enc]) | (apply dw_cond; (simp (decide := true) only [go_sem, reduceIte, reduceCtorEq, n1, n2, n3, n4, n5, n6, hltj, hw, hi, h0i, Ent.enc]; rfl); all_goals (intro hcnd; first | (exact absurd hcnd (by decide)) | skip)) | ((first | refine guardC_f ?_ ?_ | refine guardC_t ?_ ?_) <;> (intro hcnd; simp (decide := true) only [go_sem, reduceIte, reduceCtorEq, n1, n2, n3, n4, n5, n6, hcnd, hltj, hw, hi, h0i, Ent.enc]))))
          exact sub_ml rfl (by simp (decide := true) only [go_sem, reduceIte, reduceCtorEq, n1, n2, n3, n4, n5, n6]) (by simp (decide := true) only [go_sem, reduceIte, reduceCtorEq, n1, n2, n3, n4, n5, n6])
    · intro hlt
      rw [List.take_length]
      (repeat' (first | (refine dw_seq ?_) | (refine dw_block ?_) | ((first | (refine dw_reg (N := 110) rfl (by kernel_rfl) ?_) | (refine dw_skip ?_) | (refine dw_exit ?_)); simp (decide := true) only [go_sem, reduceIte, reduceCtorEq, n1, n2, n3, n4, n5, n6, hlt, hwr]) | (apply dw_cond; (simp (decide := true) only [go_sem, reduceIte, reduceCtorEq, n1, n2, n3, n4, n5, n6, hlt, hwr]; rfl); all_goals (intro hcnd; first | (exact absurd hcnd (by decide)) | skip)) | ((first | refine guardC_f ?_ ?_ | refine guardC_t ?_ ?_) <;> (intro hcnd; simp (decide := true) only [go_sem, reduceIte, reduceCtorEq, n1, n2, n3, n4, n5, n6, hcnd, hlt, hwr]))))
      exact ⟨r + 1, by simp at hrl; omega, by simp at hrl; omega, sub_ml rfl (by simp (decide := true) only [go_sem, reduceIte, reduceCtorEq, n1, n2, n3, n4, n5, n6, hS2]) (by simp (decide := true) only [go_sem, reduceIte, reduceCtorEq, n1, n2, n3, n4, n5, n6, hS1])⟩
  rintro - -
  obtain ⟨S, hS⟩ : ∃ S, S = (bfsN l id kind (l.length + 1)).1 := ⟨_, rfl⟩
  have hR : reachR l id kind = (l.filter (metIn S)).map (·.id) := by rw [hS]; rfl
  rw [← hS, hR]
  (repeat' (first | (refine dw_seq ?_) | (refine dw_block ?_) | ((first | (refine dw_reg (N := 110) rfl (by kernel_rfl) ?_) | (refine dw_skip ?_) | (refine dw_exit ?_)); simp (decide := true) only [go_sem, reduceIte, reduceCtorEq, n1, n2, n3, n4, n5, n6]) | (apply dw_cond; (simp (decide := true) only [go_sem, reduceIte, reduceCtorEq, n1, n2, n3, n4, n5, n6]; rfl); all_goals (intro hcnd; first | (exact absurd hcnd (by decide)) | skip)) | ((first | refine guardC_f ?_ ?_ | refine guardC_t ?_ ?_) <;> (intro hcnd; simp (decide := true) only [go_sem, reduceIte, reduceCtorEq, n1, n2, n3, n4, n5, n6, hcnd]))))
  refine dw_own 16 16 1 (by simp (decide := true) only [go_sem, reduceIte, reduceCtorEq, n1, n2, n3, n4, n5, n6]) ?_
  refine dw_rng0 l (fun k => kn 110 [(0, dv (.sl 8 (l.map Ent.enc))), (7, .one (.ba 20 1 0 l.length l.length)), (16, .one (.own 16 1 (ints (((l.take k).filter (metIn S)).map (·.id))))), (17, dv (li k))] (ml [(20, mRows l S)])) (by omega)
    (sub_ml rfl (by simp (decide := true) only [go_sem, reduceIte, reduceCtorEq, n1, n2, n3, n4, n5, n6, List.take_zero, List.filter_nil, ints]) (by simp (decide := true) only [go_sem, reduceIte, reduceCtorEq, n1, n2, n3, n4, n5, n6])) ?_ ?_
  · intro k e he hk hm htk hlt hw
    have hfil : ((l.take (k + 1)).filter (metIn S)).map (·.id) = ((l.take k).filter (metIn S)).map (·.id) ++ if metIn S e then [e.id] else [] := by
      rw [htk, List.filter_append, List.map_append]; congr 1; cases h : metIn S e <;> simp [List.filter_cons, h]
    have hle : ((l.take k).filter (metIn S)).length ≤ k := by
      have h1 := List.length_filter_le (metIn S) (l.take k)
      have h2 : (l.take k).length ≤ k := by simp; omega
      omega
    have hb8 : ((((l.take k).filter (metIn S)).map (·.id)).length + 1) * 8 ≤ 140737488355328 := by simp only [List.length_map]; omega
    have hma : (mRows l S)[k]? = some [T.c (lb (metIn S e))] := mRows_at he
    cases h4 : metIn S e
    · (repeat' (first | (refine dw_seq ?_) | (refine dw_block ?_) | ((first | (refine dw_reg (N := 110) rfl (by kernel_rfl) ?_) | (refine dw_skip ?_) | (refine dw_exit ?_)); simp (decide := true) only [go_sem, reduceIte, reduceCtorEq, n1, n2, n3, n4, n5, n6, hlt, hw, he, hk, hma, h4, Ent.enc]) | (apply dw_cond; (simp (decide := true) only [go_sem, reduceIte, reduceCtorEq, n1, n2, n3, n4, n5, n6, hlt, hw, he, hk, hma, h4, Ent.enc]; rfl); all_goals (intro hcnd; first | (exact absurd hcnd (by decide)) | skip)) | ((first | refine guardC_f ?_ ?_ | refine guardC_t ?_ ?_) <;> (intro hcnd; simp (decide := true) only [go_sem, reduceIte, reduceCtorEq, n1, n2, n3, n4, n5, n6, hcnd, hlt, hw, he, hk, hma, h4, Ent.enc]))))
      exact sub_ml rfl (by simp (decide := true) only [go_sem, reduceIte, reduceCtorEq, n1, n2, n3, n4, n5, n6, hfil, h4, List.append_nil]) (by simp (decide := true) only [go_sem, reduceIte, reduceCtorEq, n1, n2, n3, n4, n5, n6])
    · have hb9 : (((l.take k).filter (metIn S)).length + 1) * 8 ≤ 140737488355328 := by omega
      (repeat' (first | (refine dw_seq ?_) | (refine dw_block ?_) | ((first | (refine dw_reg (N := 110) rfl (by kernel_rfl) ?_) | (refine dw_skip ?_) | (refine dw_exit ?_)); simp (decide := true) only [go_sem, reduceIte, reduceCtorEq, n1, n2, n3, n4, n5, n6, hlt, hw, he, hk, hma, h4, hb8, hb9, Ent.enc]) | (apply dw_cond; (simp (decide := true) only [go_sem, reduceIte, reduceCtorEq, n1, n2, n3, n4, n5, n6, hlt, hw, he, hk, hma, h4, hb8, hb9, Ent.enc]; rfl); all_goals (intro hcnd; first | (exact absurd hcnd (by decide)) | skip)) | ((first | refine guardC_f ?_ ?_ | refine guardC_t ?_ ?_) <;> (intro hcnd; simp (decide := true) only [go_sem, reduceIte, reduceCtorEq, n1, n2, n3, n4, n5, n6, hcnd, hlt, hw, he, hk, hma, h4, hb8, hb9, Ent.enc]))))
      exact sub_ml rfl (by simp (decide := true) only [go_sem, reduceIte, reduceCtorEq, n1, n2, n3, n4, n5, n6, hfil, h4, ints, List.map_append]) (by simp (decide := true) only [go_sem, reduceIte, reduceCtorEq, n1, n2, n3, n4, n5, n6])
  · intro hlt
    rw [List.take_length]
    (repeat' (first | (refine dw_seq ?_) | (refine dw_block ?_) | ((first | (refine dw_reg (N := 110) rfl (by kernel_rfl) ?_) | (refine dw_skip ?_) | (refine dw_exit ?_)); simp (decide := true) only [go_sem, reduceIte, reduceCtorEq, n1, n2, n3, n4, n5, n6, hlt]) | (apply dw_cond; (simp (decide := true) only [go_sem, reduceIte, reduceCtorEq, n1, n2, n3, n4, n5, n6, hlt]; rfl); all_goals (intro hcnd; first | (exact absurd hcnd (by decide)) | skip)) | ((first | refine guardC_f ?_ ?_ | refine guardC_t ?_ ?_) <;> (intro hcnd; simp (decide := true) only [go_sem, reduceIte, reduceCtorEq, n1, n2, n3, n4, n5, n6, hcnd, hlt]))))
    refine dw_weaken (sub_kn (N := 110) (sls := [(6, dv (.sl 1 (ints ((l.filter (metIn S)).map (·.id)))))]) (bx := noMem) rfl (by simp (decide := true) only [go_sem, reduceIte, reduceCtorEq, n1, n2, n3, n4, n5, n6]) (by simp [noMem])) ?_
    refine dw_ret ?_; simp (decide := true) only [go_sem, reduceIte, reduceCtorEq, n1, n2, n3, n4, n5, n6]
end Go.Proofs.Ytiecekikcegnmaa

/- Links and entries: lists of them in memory of one's own (printed by gen_ins.py). -/
namespace Go.Proofs.Ytiecekikcegnmaa
open Go.Dl
attribute [local irreducible] DW DCalls ECalls wk IW

--F56
set_option maxRecDepth 10000 in
set_option maxHeartbeats 2000000 in
theorem cloneL_E (xs : List (List Dl.C)) (hz : ∀ r ∈ xs, r.length = 2) (hl : xs.length ≤ 1000000) :
    ECalls Try.prog 56 [dv (.sl 2 xs)] noMem (fun r H' => ∃ j, r = .one (.ba 0 2 0 xs.length (xs.length + j)) ∧ H' = ml [(0, cr xs ++ anyRows j 2)]) := by
  refine ecalls (N := 8) (rs := [.tmp 2]) (by kernel_rfl) Try.func56 rfl rfl rfl (by simp) ?_
  cases xs with
  | nil =>
    refine dw_emp (sz := 2) 0 (by simp (decide := true) only [go_sem, reduceIte, reduceCtorEq, n1, n2, n3, n4, n5, n6]) ?_ (fun a cap hcap => ?_)
    · (repeat (first | (refine dw_seq ?_) | (refine dw_block ?_) | ((first | (refine dw_reg (N := 8) rfl (by kernel_rfl) ?_) | (refine dw_skip ?_) | (refine dw_exit ?_)); simp (decide := true) only [go_sem, reduceIte, reduceCtorEq, n1, n2, n3, n4, n5, n6])))
      apply dw_cond; (simp (decide := true) only [go_sem, reduceIte, reduceCtorEq, n1, n2, n3, n4, n5, n6]; rfl)
      · intro _
        (repeat (first | (refine dw_seq ?_) | (refine dw_block ?_) | ((first | (refine dw_reg (N := 8) rfl (by kernel_rfl) ?_) | (refine dw_skip ?_) | (refine dw_exit ?_)); simp (decide := true) only [go_sem, reduceIte, reduceCtorEq, n1, n2, n3, n4, n5, n6])))
        refine dw_weaken (DS.Sub.trans (sub_zero 2 0 2 (.inl (by simp (decide := true) only [go_sem, reduceIte, reduceCtorEq, n1, n2, n3, n4, n5, n6]))) (sub_ml (N := 8) (sls := [(2, .one (.ba 0 2 0 0 0))]) (bxs := [(0, [])]) rfl (by simp (decide := true) only [go_sem, reduceIte, reduceCtorEq, n1, n2, n3, n4, n5, n6]) (by simp (decide := true) only [go_sem, reduceIte, reduceCtorEq, n1, n2, n3, n4, n5, n6]))) ?_
        refine dw_ret ?_; simp (decide := true) only [go_sem, reduceIte, reduceCtorEq, n1, n2, n3, n4, n5, n6]
        exact ⟨0, rfl, rfl⟩
      · simp
    · (repeat (first | (refine dw_seq ?_) | (refine dw_block ?_) | ((first | (refine dw_reg (N := 8) rfl (by kernel_rfl) ?_) | (refine dw_skip ?_) | (refine dw_exit ?_)); simp (decide := true) only [go_sem, reduceIte, reduceCtorEq, n1, n2, n3, n4, n5, n6])))
      apply dw_cond; (simp (decide := true) only [go_sem, reduceIte, reduceCtorEq, n1, n2, n3, n4, n5, n6]; rfl)
      · simp
      intro _
      refine dw_skip ?_
      simp (decide := true) only [go_sem, reduceIte, reduceCtorEq, n1, n2, n3, n4, n5, n6]
      refine dw_weaken (s' := kn 8 [(0, dv (.sl 2 []))] noMem) (sub_kn rfl ⟨.inr (by simp (decide := true) only [go_sem, reduceIte, reduceCtorEq, n1, n2, n3, n4, n5, n6]; exact DLe.emp 2 hcap), trivial⟩ (by simp [noMem])) ?_
      refine dw_seq ?_
      refine dw_regM (N := 8) [.hand] rfl (by kernel_rfl) ?_
      simp (decide := true) only [go_sem, reduceIte, reduceCtorEq, n1, n2, n3, n4, n5, n6]
      refine StepC.mk (Step.buildNone (sz := 2) rfl rfl (by simp (decide := true) only [go_sem, reduceIte, reduceCtorEq, n1, n2, n3, n4, n5, n6]) ?_)
      simp (decide := true) only [go_sem, reduceIte, reduceCtorEq, n1, n2, n3, n4, n5, n6]
      refine StepC.mk (Step.appendList (n := 5) (sz := 2) (by_ := 16) (rows := []) (j := 0) (ys := []) rfl rfl (by simp (decide := true) only [go_sem, reduceIte, reduceCtorEq, n1, n2, n3, n4, n5, n6]) (by simp (decide := true) only [go_sem, reduceIte, reduceCtorEq, n1, n2, n3, n4, n5, n6]) (by simp (decide := true) only [go_sem, reduceIte, reduceCtorEq, n1, n2, n3, n4, n5, n6]) (by simp [RowsSz]) (srcSl (ys := []) (by simp (decide := true) only [go_sem, reduceIte, reduceCtorEq, n1, n2, n3, n4, n5, n6])) (by simp) ?_)
      intro j'
      simp (decide := true) only [go_sem, reduceIte, reduceCtorEq, n1, n2, n3, n4, n5, n6]
      (repeat' (first | (refine dw_seq ?_) | (refine dw_block ?_) | ((first | (refine dw_reg (N := 8) rfl (by kernel_rfl) ?_) | (refine dw_skip ?_) | (refine dw_exit ?_)); simp (decide := true) only [go_sem, reduceIte, reduceCtorEq, n1, n2, n3, n4, n5, n6]) | (apply dw_cond; (simp (decide := true) only [go_sem, reduceIte, reduceCtorEq, n1, n2, n3, n4, n5, n6]; rfl); all_goals (intro hcnd; first | (exact absurd hcnd (by decide)) | skip)) | ((first | refine guardC_f ?_ ?_ | refine guardC_t ?_ ?_) <;> (intro hcnd; simp (decide := true) only [go_sem, reduceIte, reduceCtorEq, n1, n2, n3, n4, n5, n6, hcnd]))))
      refine dw_weaken (DS.Sub.trans (sub_mv 7 0 (by omega)) (sub_ml (N := 8) (sls := [(2, .one (.ba 0 2 0 0 (0 + j')))]) (bxs := [(0, cr [] ++ anyRows j' 2)]) rfl (by simp (decide := true) only [go_sem, reduceIte, reduceCtorEq, n1, n2, n3, n4, n5, n6]) (by simp (decide := true) only [go_sem, reduceIte, reduceCtorEq, n1, n2, n3, n4, n5, n6, cr_nil]))) ?_
      refine dw_ret ?_; simp (decide := true) only [go_sem, reduceIte, reduceCtorEq, n1, n2, n3, n4, n5, n6]
      exact ⟨j', rfl, rfl⟩
  | cons x xs =>
    (repeat (first | (refine dw_seq ?_) | (refine dw_block ?_) | ((first | (refine dw_reg (N := 8) rfl (by kernel_rfl) ?_) | (refine dw_skip ?_) | (refine dw_exit ?_)); simp (decide := true) only [go_sem, reduceIte, reduceCtorEq, n1, n2, n3, n4, n5, n6])))
    apply dw_cond; (simp (decide := true) only [go_sem, reduceIte, reduceCtorEq, n1, n2, n3, n4, n5, n6]; rfl)
    · simp
    intro _
    refine dw_skip ?_
    simp (decide := true) only [go_sem, reduceIte, reduceCtorEq, n1, n2, n3, n4, n5, n6]
    refine dw_seq ?_
    refine dw_regM (N := 8) [.hand] rfl (by kernel_rfl) ?_
    simp (decide := true) only [go_sem, reduceIte, reduceCtorEq, n1, n2, n3, n4, n5, n6]
    refine StepC.mk (Step.buildNone (sz := 2) rfl rfl (by simp (decide := true) only [go_sem, reduceIte, reduceCtorEq, n1, n2, n3, n4, n5, n6]) ?_)
    simp (decide := true) only [go_sem, reduceIte, reduceCtorEq, n1, n2, n3, n4, n5, n6]
    refine StepC.mk (Step.appendList (n := 5) (sz := 2) (by_ := 16) (rows := []) (j := 0) (ys := cr (x :: xs)) rfl rfl (by simp (decide := true) only [go_sem, reduceIte, reduceCtorEq, n1, n2, n3, n4, n5, n6]) (by simp (decide := true) only [go_sem, reduceIte, reduceCtorEq, n1, n2, n3, n4, n5, n6]) (by simp (decide := true) only [go_sem, reduceIte, reduceCtorEq, n1, n2, n3, n4, n5, n6]) (by simp [RowsSz]) (srcSl (by simp (decide := true) only [go_sem, reduceIte, reduceCtorEq, n1, n2, n3, n4, n5, n6])) (by simp only [cr_len, List.length_nil]; omega) ?_)
    intro j'
    simp (decide := true) only [go_sem, reduceIte, reduceCtorEq, n1, n2, n3, n4, n5, n6]
    (repeat' (first | (refine dw_seq ?_) | (refine dw_block ?_) | ((first | (refine dw_reg (N := 8) rfl (by kernel_rfl) ?_) | (refine dw_skip ?_) | (refine dw_exit ?_)); simp (decide := true) only [go_sem, reduceIte, reduceCtorEq, n1, n2, n3, n4, n5, n6]) | (apply dw_cond; (simp (decide := true) only [go_sem, reduceIte, reduceCtorEq, n1, n2, n3, n4, n5, n6]; rfl); all_goals (intro hcnd; first | (exact absurd hcnd (by decide)) | skip)) | ((first | refine guardC_f ?_ ?_ | refine guardC_t ?_ ?_) <;> (intro hcnd; simp (decide := true) only [go_sem, reduceIte, reduceCtorEq, n1, n2, n3, n4, n5, n6, hcnd]))))
    refine dw_weaken (DS.Sub.trans (sub_mv 7 0 (by omega)) (sub_ml (N := 8) (sls := [(2, .one (.ba 0 2 0 (x :: xs).length ((x :: xs).length + j')))]) (bxs := [(0, cr (x :: xs) ++ anyRows j' 2)]) rfl (by simp (decide := true) only [go_sem, reduceIte, reduceCtorEq, n1, n2, n3, n4, n5, n6, cr_len]) (by simp (decide := true) only [go_sem, reduceIte, reduceCtorEq, n1, n2, n3, n4, n5, n6]))) ?_
    refine dw_ret ?_; simp (decide := true) only [go_sem, reduceIte, reduceCtorEq, n1, n2, n3, n4, n5, n6]
    exact ⟨j', rfl, rfl⟩

--F55
set_option maxRecDepth 10000 in
set_option maxHeartbeats 8000000 in
theorem insL_E (a : Nat) (xs : List (List Dl.C)) (j : Nat) (v : List Dl.C) (hz : ∀ r ∈ xs, r.length = 2) (hvl : v.length = 2) (i : Nat) (hi : i ≤ xs.length) (hl : xs.length ≤ 100000) :
    ECalls Try.prog 55 [.one (.ba 1000 2 0 xs.length (xs.length + j)), dv (li i), .one (.ba (a + NB) 2 0 1 1)] (listMem xs j 2 (a + NB) v)
      (fun r H' => ∃ j', r = .one (.ba 1000 2 0 (xs.length + 1) (xs.length + 1 + j')) ∧ H' = ml [(1000, cr (xs.take i ++ v :: xs.drop i) ++ anyRows j' 2)]) := by
  have hNB := NB_big
  have hmax : (1000000 : Nat) < maxLen := by simp [maxLen]
  have hqn : a + NB ≠ 1000 := by omega
  have le1 : (0 : Nat) ≤ i := Nat.zero_le _
  have hlj : xs.length ≤ xs.length + j := by omega
  have hib : i ≤ xs.length + j := by omega
  have hcl := cr_len xs
  have hzr := cr_sz hz
  have hz2 : RowsSz 2 (cr xs ++ anyRows j 2) := fun r hr => (List.mem_append.1 hr).elim (hzr r) (anyRows_sz j 2 r)
  have hml := listMem_l xs j 2 (a + NB) v
  have hmq := listMem_q xs j 2 a v
  have hvT : (v.map T.c).length = 2 := by simpa using hvl
  refine ecalls (N := 95) (rs := [.tmp 6]) (by kernel_rfl) Try.func55 rfl rfl rfl (by simp) ?_
  rcases Nat.lt_or_ge i xs.length with hlt | hge
  · have he : ((i : Int) == (xs.length : Int)) = false := by simp; omega
    have hlt' : i < (cr xs).length := by omega
    have hw1 : IntKind.i64.wrap ((xs.length : Int) + 1) = ((xs.length + 1 : Nat) : Int) := by rw [wrap_i64 (by omega) (by omega)]; rfl
    have hw2 : IntKind.i64.wrap (((xs.length + 1 : Nat) : Int) - (i : Int)) = ((xs.length + 1 - i : Nat) : Int) := by rw [wrap_i64 (by omega) (by omega)]; omega
    have hw3 : IntKind.i64.wrap ((i : Int) + 1) = ((i + 1 : Nat) : Int) := by rw [wrap_i64 (by omega) (by omega)]; rfl
    (repeat (first | (refine dw_seq ?_) | (refine dw_block ?_) | ((first | (refine dw_reg (N := 95) rfl (by kernel_rfl) ?_) | (apply dw_drw (id := 11) (N := 95) [(0, .light), (1, .light), (2, .light), (3, .light), (4, .light), (5, .light), (6, .light), (7, .light), (8, .step)]; kernel_rfl; rfl; kernel_rfl; (repeat (first | exact Picks.nil | (apply Picks.cons; rfl)))) | (apply dw_drw (id := 15) (N := 95) [(0, .light), (1, .light), (2, .light), (3, .light), (4, .light), (5, .light), (6, .light), (7, .light), (8, .step)]; kernel_rfl; rfl; kernel_rfl; (repeat (first | exact Picks.nil | (apply Picks.cons; rfl)))) | (refine dw_skip ?_) | (refine dw_exit ?_)); simp (decide := true) only [go_sem, reduceIte, reduceCtorEq, n1, n2, n3, n4, n5, n6, hi, hib, hlj, he])))
    apply dw_cond; (simp (decide := true) only [go_sem, reduceIte, reduceCtorEq, n1, n2, n3, n4, n5, n6]; rfl)
    · simp
    intro _
    (repeat (first | (refine dw_seq ?_) | (refine dw_block ?_) | ((first | (refine dw_reg (N := 95) rfl (by kernel_rfl) ?_) | (apply dw_drw (id := 11) (N := 95) [(0, .light), (1, .light), (2, .light), (3, .light), (4, .light), (5, .light), (6, .light), (7, .light), (8, .step)]; kernel_rfl; rfl; kernel_rfl; (repeat (first | exact Picks.nil | (apply Picks.cons; rfl)))) | (apply dw_drw (id := 15) (N := 95) [(0, .light), (1, .light), (2, .light), (3, .light), (4, .light), (5, .light), (6, .light), (7, .light), (8, .step)]; kernel_rfl; rfl; kernel_rfl; (repeat (first | exact Picks.nil | (apply Picks.cons; rfl)))) | (refine dw_skip ?_) | (refine dw_exit ?_)); simp (decide := true) only [go_sem, reduceIte, reduceCtorEq, n1, n2, n3, n4, n5, n6, hi, hib, hlj, he])))
    apply dw_cond; (simp (decide := true) only [go_sem, reduceIte, reduceCtorEq, n1, n2, n3, n4, n5, n6]; rfl)
    · simp
    intro _
    rcases Nat.eq_zero_or_pos j with hj0 | hj0
    · have hg : decide (((xs.length + j : Nat) : Int) < ((xs.length + 1 : Nat) : Int)) = true := by simp; omega
      (repeat (first | (refine dw_seq ?_) | (refine dw_block ?_) | ((first | (refine dw_reg (N := 95) rfl (by kernel_rfl) ?_) | (apply dw_drw (id := 11) (N := 95) [(0, .light), (1, .light), (2, .light), (3, .light), (4, .light), (5, .light), (6, .light), (7, .light), (8, .step)]; kernel_rfl; rfl; kernel_rfl; (repeat (first | exact Picks.nil | (apply Picks.cons; rfl)))) | (apply dw_drw (id := 15) (N := 95) [(0, .light), (1, .light), (2, .light), (3, .light), (4, .light), (5, .light), (6, .light), (7, .light), (8, .step)]; kernel_rfl; rfl; kernel_rfl; (repeat (first | exact Picks.nil | (apply Picks.cons; rfl)))) | (refine dw_skip ?_) | (refine dw_exit ?_)); simp (decide := true) only [go_sem, reduceIte, reduceCtorEq, n1, n2, n3, n4, n5, n6, hi, hib, hlj, he, hw1, hg])))
      apply dw_cond; (simp (decide := true) only [go_sem, reduceIte, reduceCtorEq, n1, n2, n3, n4, n5, n6]; rfl)
      · intro _
        have hik : i + (xs.length + 1 - i) = xs.length + 1 := by omega
        have h0i := Nat.zero_le i
        (repeat (first | (refine dw_seq ?_) | (refine dw_block ?_) | ((first | (refine dw_reg (N := 95) rfl (by kernel_rfl) ?_) | (apply dw_drw (id := 11) (N := 95) [(0, .light), (1, .light), (2, .light), (3, .light), (4, .light), (5, .light), (6, .light), (7, .light), (8, .step)]; kernel_rfl; rfl; kernel_rfl; (repeat (first | exact Picks.nil | (apply Picks.cons; rfl)))) | (apply dw_drw (id := 15) (N := 95) [(0, .light), (1, .light), (2, .light), (3, .light), (4, .light), (5, .light), (6, .light), (7, .light), (8, .step)]; kernel_rfl; rfl; kernel_rfl; (repeat (first | exact Picks.nil | (apply Picks.cons; rfl)))) | (refine dw_skip ?_) | (refine dw_exit ?_)); simp (decide := true) only [go_sem, reduceIte, reduceCtorEq, n1, n2, n3, n4, n5, n6, hi, hib, hlj, he, hw1, hw2, h0i, Nat.sub_zero])))
        refine StepC.mk (Step.appendMkList (kd := .i64) (n := 1000) (rows := cr xs ++ anyRows j 2) (i := 0) (len := i) (cap := xs.length + j) (k := xs.length + 1 - i) (sz := 2) (by_ := 16) rfl rfl (by simp (decide := true) only [go_sem, reduceIte, reduceCtorEq, n1, n2, n3, n4, n5, n6]) (by simp (decide := true) only [go_sem, reduceIte, reduceCtorEq, n1, n2, n3, n4, n5, n6]) (by simp (decide := true) only [go_sem, reduceIte, reduceCtorEq, n1, n2, n3, n4, n5, n6]) (by simp (decide := true) only [go_sem, reduceIte, reduceCtorEq, n1, n2, n3, n4, n5, n6]) (by simp (decide := true) only [go_sem, reduceIte, reduceCtorEq, n1, n2, n3, n4, n5, n6, hml]) (by simp [cr_len, anyRows_len]) hz2 (by omega) (by omega) (by omega) (by omega) ?_)
        intro j'
        have hik2 : i ≤ xs.length + 1 := by omega
        have hlj2 : xs.length + 1 ≤ xs.length + 1 + j' := by omega
        have ht0 : ((cr xs ++ anyRows j 2).drop 0).take i = cr (xs.take i) := by rw [List.drop_zero, List.take_append_of_le_length (by omega), cr_take]
        simp only [ht0, hik]
        simp (decide := true) only [go_sem, reduceIte, reduceCtorEq, n1, n2, n3, n4, n5, n6]
        (repeat (first | (refine dw_seq ?_) | (refine dw_block ?_) | ((first | (refine dw_reg (N := 95) rfl (by kernel_rfl) ?_) | (apply dw_drw (id := 11) (N := 95) [(0, .light), (1, .light), (2, .light), (3, .light), (4, .light), (5, .light), (6, .light), (7, .light), (8, .step)]; kernel_rfl; rfl; kernel_rfl; (repeat (first | exact Picks.nil | (apply Picks.cons; rfl)))) | (apply dw_drw (id := 15) (N := 95) [(0, .light), (1, .light), (2, .light), (3, .light), (4, .light), (5, .light), (6, .light), (7, .light), (8, .step)]; kernel_rfl; rfl; kernel_rfl; (repeat (first | exact Picks.nil | (apply Picks.cons; rfl)))) | (refine dw_skip ?_) | (refine dw_exit ?_)); simp (decide := true) only [go_sem, reduceIte, reduceCtorEq, n1, n2, n3, n4, n5, n6, hik2, hlj2])))
        have hzt0 : RowsSz 2 (cr (xs.take i)) := cr_sz fun r hr => hz r (List.mem_of_mem_take hr)
        have hzt : RowsSz 2 (cr (xs.take i) ++ anyRows (xs.length + 1 - i + j') 2) := fun r hr => (List.mem_append.1 hr).elim (hzt0 r) (anyRows_sz _ 2 r)
        have hzt2 : RowsSz 2 (cr (xs.take i) ++ v.map T.c :: anyRows (xs.length - i + j') 2) := fun r hr => by
          simp only [List.mem_append, List.mem_cons] at hr
          rcases hr with h | rfl | h
          · exact hzt0 r h
          · exact hvT
          · exact anyRows_sz _ 2 r h
        have hti : (cr (xs.take i)).length = i := by simp [cr_len]; omega
        have g1 := ins_grow1 (cr xs) (v.map T.c) i j' 2 hlt'
        have g2 := ins_grow2 (cr xs) (v.map T.c) i j' 2 hlt'
        rw [cr_take, hcl] at g1 g2
        refine StepC.mk (Step.copyTo (n := 40) (sz := 2) (i := i) (len := xs.length + 1 - i) (cap := xs.length + 1 + j' - i) (ys := [v.map T.c]) (rows := cr (xs.take i) ++ anyRows (xs.length + 1 - i + j') 2) (rows' := cr (xs.take i) ++ v.map T.c :: anyRows (xs.length - i + j') 2) (c := 1)
          rfl (by simp (decide := true) only [go_sem, reduceIte, reduceCtorEq, n1, n2, n3, n4, n5, n6]) (by simp (decide := true) only [go_sem, reduceIte, reduceCtorEq, n1, n2, n3, n4, n5, n6]) (by simp (decide := true) only [go_sem, reduceIte, reduceCtorEq, n1, n2, n3, n4, n5, n6]) (by simp only [List.length_append, anyRows_len, hti]; omega) hzt (srcOne (n := a + NB) (by simp (decide := true) only [go_sem, reduceIte, reduceCtorEq, n1, n2, n3, n4, n5, n6]) (by simp (decide := true) only [go_sem, reduceIte, reduceCtorEq, n1, n2, n3, n4, n5, n6, hmq]) hvT) (by simp <;> omega) g1 ?_)
        have hi1 : i + 1 ≤ xs.length + 1 := by omega
        simp (decide := true) only [go_sem, reduceIte, reduceCtorEq, n1, n2, n3, n4, n5, n6]
        (repeat (first | (refine dw_seq ?_) | (refine dw_block ?_) | ((first | (refine dw_reg (N := 95) rfl (by kernel_rfl) ?_) | (apply dw_drw (id := 11) (N := 95) [(0, .light), (1, .light), (2, .light), (3, .light), (4, .light), (5, .light), (6, .light), (7, .light), (8, .step)]; kernel_rfl; rfl; kernel_rfl; (repeat (first | exact Picks.nil | (apply Picks.cons; rfl)))) | (apply dw_drw (id := 15) (N := 95) [(0, .light), (1, .light), (2, .light), (3, .light), (4, .light), (5, .light), (6, .light), (7, .light), (8, .step)]; kernel_rfl; rfl; kernel_rfl; (repeat (first | exact Picks.nil | (apply Picks.cons; rfl)))) | (refine dw_skip ?_) | (refine dw_exit ?_)); simp (decide := true) only [go_sem, reduceIte, reduceCtorEq, n1, n2, n3, n4, n5, n6, hw3, hi1, hlj2, hi, hlj])))
        refine StepC.mk (Step.copyTo (n := 40) (sz := 2) (i := i + 1) (len := xs.length + 1 - (i + 1)) (cap := xs.length + 1 + j' - (i + 1)) (ys := (cr xs).drop i) (rows := cr (xs.take i) ++ v.map T.c :: anyRows (xs.length - i + j') 2) (rows' := cr (xs.take i) ++ (v.map T.c :: ((cr xs).drop i ++ anyRows j' 2))) (c := xs.length - i)
          rfl (by simp (decide := true) only [go_sem, reduceIte, reduceCtorEq, n1, n2, n3, n4, n5, n6]) (by simp (decide := true) only [go_sem, reduceIte, reduceCtorEq, n1, n2, n3, n4, n5, n6]) (by simp (decide := true) only [go_sem, reduceIte, reduceCtorEq, n1, n2, n3, n4, n5, n6]) (by simp only [List.length_append, List.length_cons, anyRows_len, hti]; omega) hzt2
          (srcBa (n := 1000) (i := i) (len := xs.length - i) (cap := xs.length + j - i) (rows := cr xs ++ anyRows j 2) (by simp (decide := true) only [go_sem, reduceIte, reduceCtorEq, n1, n2, n3, n4, n5, n6]) (by simp (decide := true) only [go_sem, reduceIte, reduceCtorEq, n1, n2, n3, n4, n5, n6, hml]) (by simp only [List.length_append, anyRows_len, hcl]; omega) hz2 (by rw [List.drop_append_of_le_length (by omega), List.take_append_of_le_length (by simp [cr_len]), List.take_of_length_le (by simp [cr_len])])) (by simp [cr_len] <;> omega) g2 ?_)
        simp (decide := true) only [go_sem, reduceIte, reduceCtorEq, n1, n2, n3, n4, n5, n6]
        (repeat (first | (refine dw_seq ?_) | (refine dw_block ?_) | ((first | (refine dw_reg (N := 95) rfl (by kernel_rfl) ?_) | (apply dw_drw (id := 11) (N := 95) [(0, .light), (1, .light), (2, .light), (3, .light), (4, .light), (5, .light), (6, .light), (7, .light), (8, .step)]; kernel_rfl; rfl; kernel_rfl; (repeat (first | exact Picks.nil | (apply Picks.cons; rfl)))) | (apply dw_drw (id := 15) (N := 95) [(0, .light), (1, .light), (2, .light), (3, .light), (4, .light), (5, .light), (6, .light), (7, .light), (8, .step)]; kernel_rfl; rfl; kernel_rfl; (repeat (first | exact Picks.nil | (apply Picks.cons; rfl)))) | (refine dw_skip ?_) | (refine dw_exit ?_)); simp (decide := true) only [go_sem, reduceIte, reduceCtorEq, n1, n2, n3, n4, n5, n6])))
        refine dw_weaken (DS.Sub.trans (sub_mv 40 1000 (by decide)) (sub_ml (N := 95) (sls := [(6, .one (.ba 1000 2 0 (xs.length + 1) (xs.length + 1 + j')))]) (bxs := [(1000, cr (xs.take i ++ v :: xs.drop i) ++ anyRows j' 2)]) rfl (by simp (decide := true) only [go_sem, reduceIte, reduceCtorEq, n1, n2, n3, n4, n5, n6]) (by simp (decide := true) only [go_sem, reduceIte, reduceCtorEq, n1, n2, n3, n4, n5, n6, cr_append, cr_cons, cr_drop, List.append_assoc]))) ?_
        refine dw_ret ?_; simp (decide := true) only [go_sem, reduceIte, reduceCtorEq, n1, n2, n3, n4, n5, n6]
        exact ⟨j', rfl, rfl⟩
      · simp
    · have hg : decide (((xs.length + j : Nat) : Int) < ((xs.length + 1 : Nat) : Int)) = false := by simp; omega
      (repeat (first | (refine dw_seq ?_) | (refine dw_block ?_) | ((first | (refine dw_reg (N := 95) rfl (by kernel_rfl) ?_) | (apply dw_drw (id := 11) (N := 95) [(0, .light), (1, .light), (2, .light), (3, .light), (4, .light), (5, .light), (6, .light), (7, .light), (8, .step)]; kernel_rfl; rfl; kernel_rfl; (repeat (first | exact Picks.nil | (apply Picks.cons; rfl)))) | (apply dw_drw (id := 15) (N := 95) [(0, .light), (1, .light), (2, .light), (3, .light), (4, .light), (5, .light), (6, .light), (7, .light), (8, .step)]; kernel_rfl; rfl; kernel_rfl; (repeat (first | exact Picks.nil | (apply Picks.cons; rfl)))) | (refine dw_skip ?_) | (refine dw_exit ?_)); simp (decide := true) only [go_sem, reduceIte, reduceCtorEq, n1, n2, n3, n4, n5, n6, hi, hib, hlj, he, hw1, hg])))
      apply dw_cond; (simp (decide := true) only [go_sem, reduceIte, reduceCtorEq, n1, n2, n3, n4, n5, n6]; rfl)
      · simp
      intro _
      have hj1 : xs.length + 1 ≤ xs.length + j := by omega
      have h0l := Nat.zero_le (xs.length + 1)
      have hi1 : i + 1 ≤ xs.length + 1 := by omega
      (repeat (first | (refine dw_seq ?_) | (refine dw_block ?_) | ((first | (refine dw_reg (N := 95) rfl (by kernel_rfl) ?_) | (apply dw_drw (id := 11) (N := 95) [(0, .light), (1, .light), (2, .light), (3, .light), (4, .light), (5, .light), (6, .light), (7, .light), (8, .step)]; kernel_rfl; rfl; kernel_rfl; (repeat (first | exact Picks.nil | (apply Picks.cons; rfl)))) | (apply dw_drw (id := 15) (N := 95) [(0, .light), (1, .light), (2, .light), (3, .light), (4, .light), (5, .light), (6, .light), (7, .light), (8, .step)]; kernel_rfl; rfl; kernel_rfl; (repeat (first | exact Picks.nil | (apply Picks.cons; rfl)))) | (refine dw_skip ?_) | (refine dw_exit ?_)); simp (decide := true) only [go_sem, reduceIte, reduceCtorEq, n1, n2, n3, n4, n5, n6, hi, hib, hlj, he, hw1, hw3, hj1, h0l, Nat.sub_zero, hi1])))
      refine CallC.step (Step.overlaps (t := 42) (tr := 4) (q := a + NB) (sz := 2) (m := 1) (rowsq := [v.map T.c]) (n := 1000) (i := i + 1) (len := xs.length + 1 - (i + 1)) (cap := xs.length + j - (i + 1)) (rows := cr xs ++ anyRows j 2) rfl (by simp (decide := true) only [go_sem, reduceIte, reduceCtorEq, n1, n2, n3, n4, n5, n6]) Try.func64 (by kernel_rfl) (by kernel_rfl) (by kernel_rfl) (by kernel_rfl) Try.underlying42 (inf := Try.t47) (by kernel_rfl)
        (by simp (decide := true) only [go_sem, reduceIte, reduceCtorEq, n1, n2, n3, n4, n5, n6]) (by simp (decide := true) only [go_sem, reduceIte, reduceCtorEq, n1, n2, n3, n4, n5, n6, hmq]) (by simp) (by omega) (by omega) (by simp (decide := true) only [go_sem, reduceIte, reduceCtorEq, n1, n2, n3, n4, n5, n6]) (by simp (decide := true) only [go_sem, reduceIte, reduceCtorEq, n1, n2, n3, n4, n5, n6, hml]) (fun e => by have := congrArg List.length e; simp [anyRows_len, cr_len] at this; omega) hz2 (by omega) hqn ?_)
      simp (decide := true) only [go_sem, reduceIte, reduceCtorEq, n1, n2, n3, n4, n5, n6]
      (repeat (first | (refine dw_seq ?_) | (refine dw_block ?_) | ((first | (refine dw_reg (N := 95) rfl (by kernel_rfl) ?_) | (apply dw_drw (id := 11) (N := 95) [(0, .light), (1, .light), (2, .light), (3, .light), (4, .light), (5, .light), (6, .light), (7, .light), (8, .step)]; kernel_rfl; rfl; kernel_rfl; (repeat (first | exact Picks.nil | (apply Picks.cons; rfl)))) | (apply dw_drw (id := 15) (N := 95) [(0, .light), (1, .light), (2, .light), (3, .light), (4, .light), (5, .light), (6, .light), (7, .light), (8, .step)]; kernel_rfl; rfl; kernel_rfl; (repeat (first | exact Picks.nil | (apply Picks.cons; rfl)))) | (refine dw_skip ?_) | (refine dw_exit ?_)); simp (decide := true) only [go_sem, reduceIte, reduceCtorEq, n1, n2, n3, n4, n5, n6])))
      apply dw_cond; (simp (decide := true) only [go_sem, reduceIte, reduceCtorEq, n1, n2, n3, n4, n5, n6]; rfl)
      · intro _
        have hi2 : i ≤ xs.length + 1 := by omega
        have hRl : xs.length + j = (cr xs ++ anyRows j 2).length := by simp [anyRows_len, cr_len]
        have g1 := ins_room1 (cr xs) i j 2 hlt' hj0
        have g2 := ins_room2 (cr xs) (v.map T.c) i (j - 1) 2 hlt'
        rw [cr_take, hcl] at g1 g2
        have hzr2 : RowsSz 2 (cr (xs.take (i + 1)) ++ ((cr xs).drop i ++ anyRows (j - 1) 2)) := fun r hr => by
          simp only [List.mem_append] at hr
          rcases hr with h | h | h
          · exact cr_sz (fun r hr => hz r (List.mem_of_mem_take hr)) r h
          · exact hzr r (List.mem_of_mem_drop h)
          · exact anyRows_sz _ 2 r h
        (repeat (first | (refine dw_seq ?_) | (refine dw_block ?_) | ((first | (refine dw_reg (N := 95) rfl (by kernel_rfl) ?_) | (apply dw_drw (id := 11) (N := 95) [(0, .light), (1, .light), (2, .light), (3, .light), (4, .light), (5, .light), (6, .light), (7, .light), (8, .step)]; kernel_rfl; rfl; kernel_rfl; (repeat (first | exact Picks.nil | (apply Picks.cons; rfl)))) | (apply dw_drw (id := 15) (N := 95) [(0, .light), (1, .light), (2, .light), (3, .light), (4, .light), (5, .light), (6, .light), (7, .light), (8, .step)]; kernel_rfl; rfl; kernel_rfl; (repeat (first | exact Picks.nil | (apply Picks.cons; rfl)))) | (refine dw_skip ?_) | (refine dw_exit ?_)); simp (decide := true) only [go_sem, reduceIte, reduceCtorEq, n1, n2, n3, n4, n5, n6, hi, hib, hlj, he, hw1, hw3, hj1, h0l, Nat.sub_zero, hi1, hi2])))
        refine StepC.mk (Step.copyTo (n := 1000) (sz := 2) (i := i + 1) (len := xs.length + 1 - (i + 1)) (cap := xs.length + j - (i + 1)) (ys := ((cr xs ++ anyRows j 2).drop i).take (xs.length + 1 - i)) (rows := cr xs ++ anyRows j 2) (rows' := cr (xs.take (i + 1)) ++ ((cr xs).drop i ++ anyRows (j - 1) 2)) (c := xs.length - i)
          rfl (by simp (decide := true) only [go_sem, reduceIte, reduceCtorEq, n1, n2, n3, n4, n5, n6]) (by simp (decide := true) only [go_sem, reduceIte, reduceCtorEq, n1, n2, n3, n4, n5, n6]) (by simp (decide := true) only [go_sem, reduceIte, reduceCtorEq, n1, n2, n3, n4, n5, n6, hml]) (by rw [← hRl]; omega) hz2
          (srcBa (n := 1000) (i := i) (len := xs.length + 1 - i) (cap := xs.length + j - i) (rows := cr xs ++ anyRows j 2) (by simp (decide := true) only [go_sem, reduceIte, reduceCtorEq, n1, n2, n3, n4, n5, n6]) (by simp (decide := true) only [go_sem, reduceIte, reduceCtorEq, n1, n2, n3, n4, n5, n6, hml]) (by rw [← hRl]; omega) hz2 rfl) (by simp [anyRows_len, cr_len]; omega) g1 ?_)
        simp (decide := true) only [go_sem, reduceIte, reduceCtorEq, n1, n2, n3, n4, n5, n6]
        (repeat (first | (refine dw_seq ?_) | (refine dw_block ?_) | ((first | (refine dw_reg (N := 95) rfl (by kernel_rfl) ?_) | (apply dw_drw (id := 11) (N := 95) [(0, .light), (1, .light), (2, .light), (3, .light), (4, .light), (5, .light), (6, .light), (7, .light), (8, .step)]; kernel_rfl; rfl; kernel_rfl; (repeat (first | exact Picks.nil | (apply Picks.cons; rfl)))) | (apply dw_drw (id := 15) (N := 95) [(0, .light), (1, .light), (2, .light), (3, .light), (4, .light), (5, .light), (6, .light), (7, .light), (8, .step)]; kernel_rfl; rfl; kernel_rfl; (repeat (first | exact Picks.nil | (apply Picks.cons; rfl)))) | (refine dw_skip ?_) | (refine dw_exit ?_)); simp (decide := true) only [go_sem, reduceIte, reduceCtorEq, n1, n2, n3, n4, n5, n6, hi, hib, hlj, he, hw1, hw3, hj1, h0l, Nat.sub_zero, hi1, hi2])))
        have hti : (cr (xs.take (i + 1))).length = i + 1 := by simp [cr_len]; omega
        rw [cr_take] at g2
        refine StepC.mk (Step.copyTo (n := 1000) (sz := 2) (i := i) (len := xs.length + 1 - i) (cap := xs.length + j - i) (ys := [v.map T.c]) (rows := cr (xs.take (i + 1)) ++ ((cr xs).drop i ++ anyRows (j - 1) 2)) (rows' := cr (xs.take i) ++ (v.map T.c :: ((cr xs).drop i ++ anyRows (j - 1) 2))) (c := 1)
          rfl (by simp (decide := true) only [go_sem, reduceIte, reduceCtorEq, n1, n2, n3, n4, n5, n6]) (by simp (decide := true) only [go_sem, reduceIte, reduceCtorEq, n1, n2, n3, n4, n5, n6]) (by simp (decide := true) only [go_sem, reduceIte, reduceCtorEq, n1, n2, n3, n4, n5, n6]) (by simp only [List.length_append, List.length_drop, anyRows_len, hti, hcl]; omega) hzr2 (srcOne (n := a + NB) (by simp (decide := true) only [go_sem, reduceIte, reduceCtorEq, n1, n2, n3, n4, n5, n6]) (by simp (decide := true) only [go_sem, reduceIte, reduceCtorEq, n1, n2, n3, n4, n5, n6, hmq]) hvT) (by simp <;> omega) g2 ?_)
        simp (decide := true) only [go_sem, reduceIte, reduceCtorEq, n1, n2, n3, n4, n5, n6]
        (repeat (first | (refine dw_seq ?_) | (refine dw_block ?_) | ((first | (refine dw_reg (N := 95) rfl (by kernel_rfl) ?_) | (apply dw_drw (id := 11) (N := 95) [(0, .light), (1, .light), (2, .light), (3, .light), (4, .light), (5, .light), (6, .light), (7, .light), (8, .step)]; kernel_rfl; rfl; kernel_rfl; (repeat (first | exact Picks.nil | (apply Picks.cons; rfl)))) | (apply dw_drw (id := 15) (N := 95) [(0, .light), (1, .light), (2, .light), (3, .light), (4, .light), (5, .light), (6, .light), (7, .light), (8, .step)]; kernel_rfl; rfl; kernel_rfl; (repeat (first | exact Picks.nil | (apply Picks.cons; rfl)))) | (refine dw_skip ?_) | (refine dw_exit ?_)); simp (decide := true) only [go_sem, reduceIte, reduceCtorEq, n1, n2, n3, n4, n5, n6])))
        have hjj : xs.length + 1 + (j - 1) = xs.length + j := by omega
        refine dw_weaken (sub_ml (N := 95) (sls := [(6, .one (.ba 1000 2 0 (xs.length + 1) (xs.length + 1 + (j - 1))))]) (bxs := [(1000, cr (xs.take i ++ v :: xs.drop i) ++ anyRows (j - 1) 2)]) rfl (by simp (decide := true) only [go_sem, reduceIte, reduceCtorEq, n1, n2, n3, n4, n5, n6, hjj]) (by simp (decide := true) only [go_sem, reduceIte, reduceCtorEq, n1, n2, n3, n4, n5, n6, cr_append, cr_cons, cr_drop, List.append_assoc])) ?_
        refine dw_ret ?_; simp (decide := true) only [go_sem, reduceIte, reduceCtorEq, n1, n2, n3, n4, n5, n6]
        exact ⟨j - 1, rfl, rfl⟩
      · simp
  · have hie : i = xs.length := by omega
    have he : ((i : Int) == (xs.length : Int)) = true := by simp; omega
    (repeat (first | (refine dw_seq ?_) | (refine dw_block ?_) | ((first | (refine dw_reg (N := 95) rfl (by kernel_rfl) ?_) | (apply dw_drw (id := 11) (N := 95) [(0, .light), (1, .light), (2, .light), (3, .light), (4, .light), (5, .light), (6, .light), (7, .light), (8, .step)]; kernel_rfl; rfl; kernel_rfl; (repeat (first | exact Picks.nil | (apply Picks.cons; rfl)))) | (apply dw_drw (id := 15) (N := 95) [(0, .light), (1, .light), (2, .light), (3, .light), (4, .light), (5, .light), (6, .light), (7, .light), (8, .step)]; kernel_rfl; rfl; kernel_rfl; (repeat (first | exact Picks.nil | (apply Picks.cons; rfl)))) | (refine dw_skip ?_) | (refine dw_exit ?_)); simp (decide := true) only [go_sem, reduceIte, reduceCtorEq, n1, n2, n3, n4, n5, n6, hi, hib, hlj, he])))
    apply dw_cond; (simp (decide := true) only [go_sem, reduceIte, reduceCtorEq, n1, n2, n3, n4, n5, n6]; rfl)
    · simp
    intro _
    (repeat (first | (refine dw_seq ?_) | (refine dw_block ?_) | ((first | (refine dw_reg (N := 95) rfl (by kernel_rfl) ?_) | (apply dw_drw (id := 11) (N := 95) [(0, .light), (1, .light), (2, .light), (3, .light), (4, .light), (5, .light), (6, .light), (7, .light), (8, .step)]; kernel_rfl; rfl; kernel_rfl; (repeat (first | exact Picks.nil | (apply Picks.cons; rfl)))) | (apply dw_drw (id := 15) (N := 95) [(0, .light), (1, .light), (2, .light), (3, .light), (4, .light), (5, .light), (6, .light), (7, .light), (8, .step)]; kernel_rfl; rfl; kernel_rfl; (repeat (first | exact Picks.nil | (apply Picks.cons; rfl)))) | (refine dw_skip ?_) | (refine dw_exit ?_)); simp (decide := true) only [go_sem, reduceIte, reduceCtorEq, n1, n2, n3, n4, n5, n6, hi, hib, hlj, he])))
    apply dw_cond; (simp (decide := true) only [go_sem, reduceIte, reduceCtorEq, n1, n2, n3, n4, n5, n6]; rfl)
    · intro _
      (repeat (first | (refine dw_seq ?_) | (refine dw_block ?_) | ((first | (refine dw_reg (N := 95) rfl (by kernel_rfl) ?_) | (apply dw_drw (id := 11) (N := 95) [(0, .light), (1, .light), (2, .light), (3, .light), (4, .light), (5, .light), (6, .light), (7, .light), (8, .step)]; kernel_rfl; rfl; kernel_rfl; (repeat (first | exact Picks.nil | (apply Picks.cons; rfl)))) | (apply dw_drw (id := 15) (N := 95) [(0, .light), (1, .light), (2, .light), (3, .light), (4, .light), (5, .light), (6, .light), (7, .light), (8, .step)]; kernel_rfl; rfl; kernel_rfl; (repeat (first | exact Picks.nil | (apply Picks.cons; rfl)))) | (refine dw_skip ?_) | (refine dw_exit ?_)); simp (decide := true) only [go_sem, reduceIte, reduceCtorEq, n1, n2, n3, n4, n5, n6, hi, hib, hlj, he])))
      refine StepC.mk (Step.appendList (n := 1000) (rows := cr xs) (ys := [v.map T.c]) (j := j) (sz := 2) (by_ := 16) rfl rfl (by simp (decide := true) only [go_sem, reduceIte, reduceCtorEq, n1, n2, n3, n4, n5, n6]) (by simp (decide := true) only [go_sem, reduceIte, reduceCtorEq, n1, n2, n3, n4, n5, n6, hcl]) (by simp (decide := true) only [go_sem, reduceIte, reduceCtorEq, n1, n2, n3, n4, n5, n6, hml]) hzr (srcOne (n := a + NB) (by simp (decide := true) only [go_sem, reduceIte, reduceCtorEq, n1, n2, n3, n4, n5, n6]) (by simp (decide := true) only [go_sem, reduceIte, reduceCtorEq, n1, n2, n3, n4, n5, n6, hmq]) hvT) (by simp [cr_len]; omega) ?_)
      intro j'
      simp (decide := true) only [go_sem, reduceIte, reduceCtorEq, n1, n2, n3, n4, n5, n6, hcl]
      (repeat (first | (refine dw_seq ?_) | (refine dw_block ?_) | ((first | (refine dw_reg (N := 95) rfl (by kernel_rfl) ?_) | (apply dw_drw (id := 11) (N := 95) [(0, .light), (1, .light), (2, .light), (3, .light), (4, .light), (5, .light), (6, .light), (7, .light), (8, .step)]; kernel_rfl; rfl; kernel_rfl; (repeat (first | exact Picks.nil | (apply Picks.cons; rfl)))) | (apply dw_drw (id := 15) (N := 95) [(0, .light), (1, .light), (2, .light), (3, .light), (4, .light), (5, .light), (6, .light), (7, .light), (8, .step)]; kernel_rfl; rfl; kernel_rfl; (repeat (first | exact Picks.nil | (apply Picks.cons; rfl)))) | (refine dw_skip ?_) | (refine dw_exit ?_)); simp (decide := true) only [go_sem, reduceIte, reduceCtorEq, n1, n2, n3, n4, n5, n6])))
      have hta : xs.take i ++ v :: xs.drop i = xs ++ [v] := by subst hie; simp
      refine dw_weaken (DS.Sub.trans (sub_mv 25 1000 (by decide)) (sub_ml (N := 95) (sls := [(6, .one (.ba 1000 2 0 (xs.length + 1) (xs.length + 1 + j')))]) (bxs := [(1000, cr (xs.take i ++ v :: xs.drop i) ++ anyRows j' 2)]) rfl (by simp (decide := true) only [go_sem, reduceIte, reduceCtorEq, n1, n2, n3, n4, n5, n6, hcl]) (by simp (decide := true) only [go_sem, reduceIte, reduceCtorEq, n1, n2, n3, n4, n5, n6, hta, cr_append, cr_cons, cr_nil, List.append_assoc]))) ?_
      refine dw_ret ?_; simp (decide := true) only [go_sem, reduceIte, reduceCtorEq, n1, n2, n3, n4, n5, n6]
      exact ⟨j', rfl, rfl⟩
    · simp [hie]


--F53
set_option maxRecDepth 10000 in
set_option maxHeartbeats 2000000 in
theorem cloneE_E (xs : List (List Dl.C)) (hz : ∀ r ∈ xs, r.length = 8) (hl : xs.length ≤ 1000000) :
    ECalls Try.prog 53 [dv (.sl 8 xs)] noMem (fun r H' => ∃ j, r = .one (.ba 0 8 0 xs.length (xs.length + j)) ∧ H' = ml [(0, cr xs ++ anyRows j 8)]) := by
  refine ecalls (N := 8) (rs := [.tmp 2]) (by kernel_rfl) Try.func53 rfl rfl rfl (by simp) ?_
  cases xs with
  | nil =>
    refine dw_emp (sz := 8) 0 (by simp (decide := true) only [go_sem, reduceIte, reduceCtorEq, n1, n2, n3, n4, n5, n6]) ?_ (fun a cap hcap => ?_)
    · (repeat (first | (refine dw_seq ?_) | (refine dw_block ?_) | ((first | (refine dw_reg (N := 8) rfl (by kernel_rfl) ?_) | (refine dw_skip ?_) | (refine dw_exit ?_)); simp (decide := true) only [go_sem, reduceIte, reduceCtorEq, n1, n2, n3, n4, n5, n6])))
      apply dw_cond; (simp (decide := true) only [go_sem, reduceIte, reduceCtorEq, n1, n2, n3, n4, n5, n6]; rfl)
      · intro _
        (repeat (first | (refine dw_seq ?_) | (refine dw_block ?_) | ((first | (refine dw_reg (N := 8) rfl (by kernel_rfl) ?_) | (refine dw_skip ?_) | (refine dw_exit ?_)); simp (decide := true) only [go_sem, reduceIte, reduceCtorEq, n1, n2, n3, n4, n5, n6])))
        refine dw_weaken (DS.Sub.trans (sub_zero 2 0 8 (.inl (by simp (decide := true) only [go_sem, reduceIte, reduceCtorEq, n1, n2, n3, n4, n5, n6]))) (sub_ml (N := 8) (sls := [(2, .one (.ba 0 8 0 0 0))]) (bxs := [(0, [])]) rfl (by simp (decide := true) only [go_sem, reduceIte, reduceCtorEq, n1, n2, n3, n4, n5, n6]) (by simp (decide := true) only [go_sem, reduceIte, reduceCtorEq, n1, n2, n3, n4, n5, n6]))) ?_
        refine dw_ret ?_; simp (decide := true) only [go_sem, reduceIte, reduceCtorEq, n1, n2, n3, n4, n5, n6]
        exact ⟨0, rfl, rfl⟩
      · simp
    · (repeat (first | (refine dw_seq ?_) | (refine dw_block ?_) | ((first | (refine dw_reg (N := 8) rfl (by kernel_rfl) ?_) | (refine dw_skip ?_) | (refine dw_exit ?_)); simp (decide := true) only [go_sem, reduceIte, reduceCtorEq, n1, n2, n3, n4, n5, n6])))
      apply dw_cond; (simp (decide := true) only [go_sem, reduceIte, reduceCtorEq, n1, n2, n3, n4, n5, n6]; rfl)
      · simp
      intro _
      refine dw_skip ?_
      simp (decide := true) only [go_sem, reduceIte, reduceCtorEq, n1, n2, n3, n4, n5, n6]
      refine dw_weaken (s' := kn 8 [(0, dv (.sl 8 []))] noMem) (sub_kn rfl ⟨.inr (by simp (decide := true) only [go_sem, reduceIte, reduceCtorEq, n1, n2, n3, n4, n5, n6]; exact DLe.emp 8 hcap), trivial⟩ (by simp [noMem])) ?_
      refine dw_seq ?_
      refine dw_regM (N := 8) [.hand] rfl (by kernel_rfl) ?_
      simp (decide := true) only [go_sem, reduceIte, reduceCtorEq, n1, n2, n3, n4, n5, n6]
      refine StepC.mk (Step.buildNone (sz := 8) rfl rfl (by simp (decide := true) only [go_sem, reduceIte, reduceCtorEq, n1, n2, n3, n4, n5, n6]) ?_)
      simp (decide := true) only [go_sem, reduceIte, reduceCtorEq, n1, n2, n3, n4, n5, n6]
      refine StepC.mk (Step.appendList (n := 5) (sz := 8) (by_ := 144) (rows := []) (j := 0) (ys := []) rfl rfl (by simp (decide := true) only [go_sem, reduceIte, reduceCtorEq, n1, n2, n3, n4, n5, n6]) (by simp (decide := true) only [go_sem, reduceIte, reduceCtorEq, n1, n2, n3, n4, n5, n6]) (by simp (decide := true) only [go_sem, reduceIte, reduceCtorEq, n1, n2, n3, n4, n5, n6]) (by simp [RowsSz]) (srcSl (ys := []) (by simp (decide := true) only [go_sem, reduceIte, reduceCtorEq, n1, n2, n3, n4, n5, n6])) (by simp) ?_)
      intro j'
      simp (decide := true) only [go_sem, reduceIte, reduceCtorEq, n1, n2, n3, n4, n5, n6]
      (repeat' (first | (refine dw_seq ?_) | (refine dw_block ?_) | ((first | (refine dw_reg (N := 8) rfl (by kernel_rfl) ?_) | (refine dw_skip ?_) | (refine dw_exit ?_)); simp (decide := true) only [go_sem, reduceIte, reduceCtorEq, n1, n2, n3, n4, n5, n6]) | (apply dw_cond; (simp (decide := true) only [go_sem, reduceIte, reduceCtorEq, n1, n2, n3, n4, n5, n6]; rfl); all_goals (intro hcnd; first | (exact absurd hcnd (by decide)) | skip)) | ((first | refine guardC_f ?_ ?_ | refine guardC_t ?_ ?_) <;> (intro hcnd; simp (decide := true) only [go_sem, reduceIte, reduceCtorEq, n1, n2, n3, n4, n5, n6, hcnd]))))
      refine dw_weaken (DS.Sub.trans (sub_mv 7 0 (by omega)) (sub_ml (N := 8) (sls := [(2, .one (.ba 0 8 0 0 (0 + j')))]) (bxs := [(0, cr [] ++ anyRows j' 8)]) rfl (by simp (decide := true) only [go_sem, reduceIte, reduceCtorEq, n1, n2, n3, n4, n5, n6]) (by simp (decide := true) only [go_sem, reduceIte, reduceCtorEq, n1, n2, n3, n4, n5, n6, cr_nil]))) ?_
      refine dw_ret ?_; simp (decide := true) only [go_sem, reduceIte, reduceCtorEq, n1, n2, n3, n4, n5, n6]
      exact ⟨j', rfl, rfl⟩
  | cons x xs =>
    (repeat (first | (refine dw_seq ?_) | (refine dw_block ?_) | ((first | (refine dw_reg (N := 8) rfl (by kernel_rfl) ?_) | (refine dw_skip ?_) | (refine dw_exit ?_)); simp (decide := true) only [go_sem, reduceIte, reduceCtorEq, n1, n2, n3, n4, n5, n6])))
    apply dw_cond; (simp (decide := true) only [go_sem, reduceIte, reduceCtorEq, n1, n2, n3, n4, n5, n6]; rfl)
    · simp
    intro _
    refine dw_skip ?_
    simp (decide := true) only [go_sem, reduceIte, reduceCtorEq, n1, n2, n3, n4, n5, n6]
    refine dw_seq ?_
    refine dw_regM (N := 8) [.hand] rfl (by kernel_rfl) ?_
    simp (decide := true) only [go_sem, reduceIte, reduceCtorEq, n1, n2, n3, n4, n5, n6]
    refine StepC.mk (Step.buildNone (sz := 8) rfl rfl (by simp (decide := true) only [go_sem, reduceIte, reduceCtorEq, n1, n2, n3, n4, n5, n6]) ?_)
    simp (decide := true) only [go_sem, reduceIte, reduceCtorEq, n1, n2, n3, n4, n5, n6]
    refine StepC.mk (Step.appendList (n := 5) (sz := 8) (by_ := 144) (rows := []) (j := 0) (ys := cr (x :: xs)) rfl rfl (by simp (decide := true) only [go_sem, reduceIte, reduceCtorEq, n1, n2, n3, n4, n5, n6]) (by simp (decide := true) only [go_sem, reduceIte, reduceCtorEq, n1, n2, n3, n4, n5, n6]) (by simp (decide := true) only [go_sem, reduceIte, reduceCtorEq, n1, n2, n3, n4, n5, n6]) (by simp [RowsSz]) (srcSl (by simp (decide := true) only [go_sem, reduceIte, reduceCtorEq, n1, n2, n3, n4, n5, n6])) (by simp only [cr_len, List.length_nil]; omega) ?_)
    intro j'
    simp (decide := true) only [go_sem, reduceIte, reduceCtorEq, n1, n2, n3, n4, n5, n6]
    (repeat' (first | (refine dw_seq ?_) | (refine dw_block ?_) | ((first | (refine dw_reg (N := 8) rfl (by kernel_rfl) ?_) | (refine dw_skip ?_) | (refine dw_exit ?_)); simp (decide := true) only [go_sem, reduceIte, reduceCtorEq, n1, n2, n3, n4, n5, n6]) | (apply dw_cond; (simp (decide := true) only [go_sem, reduceIte, reduceCtorEq, n1, n2, n3, n4, n5, n6]; rfl); all_goals (intro hcnd; first | (exact absurd hcnd (by decide)) | skip)) | ((first | refine guardC_f ?_ ?_ | refine guardC_t ?_ ?_) <;> (intro hcnd; simp (decide := true) only [go_sem, reduceIte, reduceCtorEq, n1, n2, n3, n4, n5, n6, hcnd]))))
    refine dw_weaken (DS.Sub.trans (sub_mv 7 0 (by omega)) (sub_ml (N := 8) (sls := [(2, .one (.ba 0 8 0 (x :: xs).length ((x :: xs).length + j')))]) (bxs := [(0, cr (x :: xs) ++ anyRows j' 8)]) rfl (by simp (decide := true) only [go_sem, reduceIte, reduceCtorEq, n1, n2, n3, n4, n5, n6, cr_len]) (by simp (decide := true) only [go_sem, reduceIte, reduceCtorEq, n1, n2, n3, n4, n5, n6]))) ?_
    refine dw_ret ?_; simp (decide := true) only [go_sem, reduceIte, reduceCtorEq, n1, n2, n3, n4, n5, n6]
    exact ⟨j', rfl, rfl⟩

end Go.Proofs.Ytiecekikcegnmaa

/- Links: put in, taken out. -/
namespace Go.Proofs.Ytiecekikcegnmaa
open Go.Dl
attribute [local irreducible] DW DCalls ECalls wk IW

def lessL (a b : Lnk) : Bool := decide (a.kind < b.kind) || (a.kind == b.kind && decide (a.to < b.to))
def putAt (l : List Lnk) (x : Lnk) (i : Nat) : List Lnk := l.take i ++ x :: l.drop i
def lowI (l : List Lnk) (x : Lnk) : Nat := (l.takeWhile fun y => lessL y x).length
def withL (l : List Lnk) (x : Lnk) : List Lnk := putAt l x (lowI l x)
def insL (l : List Lnk) (x : Lnk) : List Lnk := if l.any (fun y => decide (x = y)) then l else withL l x
def lenc (l : List Lnk) : List (List C) := l.map Lnk.enc
theorem lenc_sz (l : List Lnk) : ∀ r ∈ l.map Lnk.enc, r.length = 2 := fun r hr => by
  obtain ⟨c, _, rfl⟩ := List.mem_map.1 hr; rfl
theorem putAt_enc (xs : List Lnk) (c : Lnk) (i : Nat) : (putAt xs c i).map Lnk.enc = (xs.map Lnk.enc).take i ++ Lnk.enc c :: (xs.map Lnk.enc).drop i := by
  simp [putAt, List.map_take, List.map_drop]

theorem tw_at {α : Type} {q : α → Bool} : ∀ {l : List α} {k : Nat}, (∀ x ∈ l.take k, q x = true) → k ≤ l.length → (∀ x, l[k]? = some x → q x = false) → (l.takeWhile q).length = k
  | [], k, _, hk, _ => by simp at hk; simp [hk]
  | x :: l, 0, _, _, h => by
    have := h x rfl
    simp [List.takeWhile_cons, this]
  | x :: l, k + 1, hi, hk, h => by
    have hx := hi x (by simp)
    rw [List.takeWhile_cons, if_pos hx, List.length_cons, tw_at (fun y hy => hi y (by rw [List.take_succ_cons]; exact List.mem_cons_of_mem _ hy)) (by simpa using hk) (fun y hy => h y (by simpa using hy))]

set_option maxRecDepth 10000 in
set_option maxHeartbeats 4000000 in
--F54
theorem less_D (a b : Lnk) : DCalls Try.prog 54 [.agg a.row, .agg b.row] (dv (lb (lessL a b))) := by
  refine dcalls (N := 24) (rs := [.tmp 4]) (by kernel_rfl) Try.func54 rfl rfl rfl (by simp) ?_
  cases h1 : decide (a.kind < b.kind) <;> cases h2 : a.kind == b.kind <;> cases h3 : decide (a.to < b.to) <;> ((repeat' (first | (refine dw_seq ?_) | (refine dw_block ?_) | ((first | (refine dw_reg (N := 24) rfl (by kernel_rfl) ?_) | (refine dw_skip ?_) | (refine dw_exit ?_) | (refine dw_ret ?_)); simp (decide := true) only [go_sem, reduceIte, reduceCtorEq, n1, n2, n3, n4, n5, n6, h1, h2, h3, Lnk.row]) | (apply dw_cond; (simp (decide := true) only [go_sem, reduceIte, reduceCtorEq, n1, n2, n3, n4, n5, n6, h1, h2, h3, Lnk.row]; rfl); all_goals (intro hcnd; first | (exact absurd hcnd (by decide)) | skip)) | ((first | refine guardC_f ?_ ?_ | refine guardC_t ?_ ?_) <;> (intro hcnd; simp (decide := true) only [go_sem, reduceIte, reduceCtorEq, n1, n2, n3, n4, n5, n6, hcnd, h1, h2, h3, Lnk.row]))))) <;> simp only [lessL, h1, h2, h3] <;> rfl

set_option maxRecDepth 10000 in
set_option maxHeartbeats 4000000 in
--F57
theorem before_D (a b : Lnk) : DCalls Try.prog 57 [.agg a.row, .agg b.row] (dv (lb (lessL a b))) := by
  refine dcalls (N := 24) (rs := [.tmp 4]) (by kernel_rfl) Try.func57 rfl rfl rfl (by simp) ?_
  cases h1 : decide (a.kind < b.kind) <;> cases h2 : a.kind == b.kind <;> cases h3 : decide (a.to < b.to) <;> ((repeat' (first | (refine dw_seq ?_) | (refine dw_block ?_) | ((first | (refine dw_reg (N := 24) rfl (by kernel_rfl) ?_) | (refine dw_skip ?_) | (refine dw_exit ?_) | (refine dw_ret ?_)); simp (decide := true) only [go_sem, reduceIte, reduceCtorEq, n1, n2, n3, n4, n5, n6, h1, h2, h3, Lnk.row]) | (apply dw_cond; (simp (decide := true) only [go_sem, reduceIte, reduceCtorEq, n1, n2, n3, n4, n5, n6, h1, h2, h3, Lnk.row]; rfl); all_goals (intro hcnd; first | (exact absurd hcnd (by decide)) | skip)) | ((first | refine guardC_f ?_ ?_ | refine guardC_t ?_ ?_) <;> (intro hcnd; simp (decide := true) only [go_sem, reduceIte, reduceCtorEq, n1, n2, n3, n4, n5, n6, hcnd, h1, h2, h3, Lnk.row]))))) <;> simp only [lessL, h1, h2, h3] <;> rfl

set_option maxRecDepth 10000 in
set_option maxHeartbeats 4000000 in
--F37
theorem insert_D (xs : List Lnk) (c : Lnk) (hl : xs.length ≤ 100000) : DCalls Try.prog 37 [dv (.sl 2 (xs.map Lnk.enc)), .agg c.row] (dv (.sl 2 ((insL xs c).map Lnk.enc))) := by
  have hmax : maxLen = 9223372036854775807 := rfl
  have hNB := NB_big
  have hcc := containsL_D xs c (by omega)
  simp only [Lnk.row] at hcc
  refine dcalls (N := 30) (rs := [.tmp 4]) (by kernel_rfl) Try.func37 rfl rfl rfl (by simp) ?_
  rcases Bool.eq_false_or_eq_true (xs.any fun y => decide (c = y)) with hany | hany
  · (repeat' (first | (refine dw_seq ?_) | (refine dw_block ?_) | ((first | (refine dw_reg (N := 30) rfl (by kernel_rfl) ?_) | (apply dw_drw (id := 4) (N := 30) [(0, .light), (1, .light), (2, .light), (3, .light), (4, .light), (5, .light), (6, .light), (7, .light), (8, .light), (9, .light), (10, .step), (11, .light)]; kernel_rfl; rfl; kernel_rfl; (repeat (first | exact Picks.nil | (apply Picks.cons; rfl)))) | (refine dw_skip ?_) | (refine dw_exit ?_) | (refine CallC.mk (hcc) (LeL.of_eq rfl) ?_) | (refine CallC.light (hcc) (LeL.of_eq rfl) ?_) | (refine dw_ret ?_)); simp (decide := true) only [go_sem, reduceIte, reduceCtorEq, n1, n2, n3, n4, n5, n6, hany, Lnk.row]) | (apply dw_cond; (simp (decide := true) only [go_sem, reduceIte, reduceCtorEq, n1, n2, n3, n4, n5, n6, hany, Lnk.row]; rfl); all_goals (intro hcnd; first | (exact absurd hcnd (by decide)) | skip)) | ((first | refine guardC_f ?_ ?_ | refine guardC_t ?_ ?_) <;> (intro hcnd; simp (decide := true) only [go_sem, reduceIte, reduceCtorEq, n1, n2, n3, n4, n5, n6, hcnd, hany, Lnk.row]))))
    simp [insL, hany]
  have hins : insL xs c = withL xs c := by simp only [insL, hany]; rfl
  rw [hins]
  (repeat' (first | (refine dw_seq ?_) | (refine dw_block ?_) | ((first | (refine dw_reg (N := 30) rfl (by kernel_rfl) ?_) | (apply dw_drw (id := 4) (N := 30) [(0, .light), (1, .light), (2, .light), (3, .light), (4, .light), (5, .light), (6, .light), (7, .light), (8, .light), (9, .light), (10, .step), (11, .light)]; kernel_rfl; rfl; kernel_rfl; (repeat (first | exact Picks.nil | (apply Picks.cons; rfl)))) | (refine dw_skip ?_) | (refine dw_exit ?_) | (refine CallC.mk (hcc) (LeL.of_eq rfl) ?_) | (refine CallC.light (hcc) (LeL.of_eq rfl) ?_)); simp (decide := true) only [go_sem, reduceIte, reduceCtorEq, n1, n2, n3, n4, n5, n6, hany, Lnk.row]) | (apply dw_cond; (simp (decide := true) only [go_sem, reduceIte, reduceCtorEq, n1, n2, n3, n4, n5, n6, hany, Lnk.row]; rfl); all_goals (intro hcnd; first | (exact absurd hcnd (by decide)) | skip)) | ((first | refine guardC_f ?_ ?_ | refine guardC_t ?_ ?_) <;> (intro hcnd; simp (decide := true) only [go_sem, reduceIte, reduceCtorEq, n1, n2, n3, n4, n5, n6, hcnd, hany, Lnk.row]))))
  refine dw_after (fun k : Nat => kn 30 [(0, dv (.sl 2 (xs.map Lnk.enc))), (3, .one (.bx 3 2 0 0)), (5, dv (li k))] (ml [(3, [c.row])])) (fun k => k ≤ xs.length ∧ withL xs c = putAt xs c k) ?_ ?_
  · refine dw_loop_fam (fun k : Nat => kn 30 [(0, dv (.sl 2 (xs.map Lnk.enc))), (3, .one (.bx 3 2 0 0)), (5, dv (li k))] (ml [(3, [c.row])])) (fun k => k ≤ xs.length ∧ ∀ x ∈ xs.take k, lessL x c = true) (fun k => xs.length - k) 0 (sub_ml rfl (by simp (decide := true) only [go_sem, reduceIte, reduceCtorEq, n1, n2, n3, n4, n5, n6]) (by simp (decide := true) only [go_sem, reduceIte, reduceCtorEq, n1, n2, n3, n4, n5, n6, Lnk.row])) ⟨by omega, by simp⟩ ?_
    rintro k ⟨hk, hall⟩
    have hdone : (∀ x, xs[k]? = some x → lessL x c = false) → withL xs c = putAt xs c k := fun h => by
      rw [withL, lowI, tw_at hall hk h]
    cases hlt : decide ((k : Int) < (xs.length : Int))
    · have hke : k = xs.length := by simp at hlt; omega
      (repeat' (first | (refine dw_seq ?_) | (refine dw_block ?_) | ((first | (refine dw_reg (N := 30) rfl (by kernel_rfl) ?_) | (apply dw_drw (id := 4) (N := 30) [(0, .light), (1, .light), (2, .light), (3, .light), (4, .light), (5, .light), (6, .light), (7, .light), (8, .light), (9, .light), (10, .step), (11, .light)]; kernel_rfl; rfl; kernel_rfl; (repeat (first | exact Picks.nil | (apply Picks.cons; rfl)))) | (refine dw_skip ?_) | (refine dw_exit ?_)); simp (decide := true) only [go_sem, reduceIte, reduceCtorEq, n1, n2, n3, n4, n5, n6, hlt, Lnk.row]) | (apply dw_cond; (simp (decide := true) only [go_sem, reduceIte, reduceCtorEq, n1, n2, n3, n4, n5, n6, hlt, Lnk.row]; rfl); all_goals (intro hcnd; first | (exact absurd hcnd (by decide)) | skip)) | ((first | refine guardC_f ?_ ?_ | refine guardC_t ?_ ?_) <;> (intro hcnd; simp (decide := true) only [go_sem, reduceIte, reduceCtorEq, n1, n2, n3, n4, n5, n6, hcnd, hlt, Lnk.row]))))
      exact ⟨k, ⟨hk, hdone (fun x hx => by rw [hke] at hx; simp at hx)⟩, sub_ml rfl (by simp (decide := true) only [go_sem, reduceIte, reduceCtorEq, n1, n2, n3, n4, n5, n6]) (by simp (decide := true) only [go_sem, reduceIte, reduceCtorEq, n1, n2, n3, n4, n5, n6, Lnk.row])⟩
    · have hkl : k < xs.length := by simpa using hlt
      have hx : xs[k]? = some xs[k] := List.getElem?_eq_getElem hkl
      have hw := wrap_succ k (by omega)
      obtain ⟨x, hxe⟩ : ∃ x, x = xs[k] := ⟨_, rfl⟩
      rw [← hxe] at hx
      have hle := less_D x c
      simp only [Lnk.row] at hle
      cases hd : lessL x c
      · rw [hd] at hle
        (repeat' (first | (refine dw_seq ?_) | (refine dw_block ?_) | ((first | (refine dw_reg (N := 30) rfl (by kernel_rfl) ?_) | (apply dw_drw (id := 4) (N := 30) [(0, .light), (1, .light), (2, .light), (3, .light), (4, .light), (5, .light), (6, .light), (7, .light), (8, .light), (9, .light), (10, .step), (11, .light)]; kernel_rfl; rfl; kernel_rfl; (repeat (first | exact Picks.nil | (apply Picks.cons; rfl)))) | (refine dw_skip ?_) | (refine dw_exit ?_) | (refine CallC.mk (hle) (LeL.of_eq rfl) ?_) | (refine CallC.light (hle) (LeL.of_eq rfl) ?_)); simp (decide := true) only [go_sem, reduceIte, reduceCtorEq, n1, n2, n3, n4, n5, n6, hlt, hx, Lnk.row, Lnk.enc]) | (apply dw_cond; (simp (decide := true) only [go_sem, reduceIte, reduceCtorEq, n1, n2, n3, n4, n5, n6, hlt, hx, Lnk.row, Lnk.enc]; rfl); all_goals (intro hcnd; first | (exact absurd hcnd (by decide)) | skip)) | ((first | refine guardC_f ?_ ?_ | refine guardC_t ?_ ?_) <;> (intro hcnd; simp (decide := true) only [go_sem, reduceIte, reduceCtorEq, n1, n2, n3, n4, n5, n6, hcnd, hlt, hx, Lnk.row, Lnk.enc]))))
        exact ⟨k, ⟨hk, hdone (fun y h => by rw [hx] at h; injection h with h; rw [← h]; exact hd)⟩, sub_ml rfl (by simp (decide := true) only [go_sem, reduceIte, reduceCtorEq, n1, n2, n3, n4, n5, n6]) (by simp (decide := true) only [go_sem, reduceIte, reduceCtorEq, n1, n2, n3, n4, n5, n6, Lnk.row])⟩
      · rw [hd] at hle
        (repeat' (first | (refine dw_seq ?_) | (refine dw_block ?_) | ((first | (refine dw_reg (N := 30) rfl (by kernel_rfl) ?_) | (apply dw_drw (id := 4) (N := 30) [(0, .light), (1, .light), (2, .light), (3, .light), (4, .light), (5, .light), (6, .light), (7, .light), (8, .light), (9, .light), (10, .step), (11, .light)]; kernel_rfl; rfl; kernel_rfl; (repeat (first | exact Picks.nil | (apply Picks.cons; rfl)))) | (refine dw_skip ?_) | (refine dw_exit ?_) | (refine CallC.mk (hle) (LeL.of_eq rfl) ?_) | (refine CallC.light (hle) (LeL.of_eq rfl) ?_)); simp (decide := true) only [go_sem, reduceIte, reduceCtorEq, n1, n2, n3, n4, n5, n6, hlt, hx, hw, Lnk.row, Lnk.enc]) | (apply dw_cond; (simp (decide := true) only [go_sem, reduceIte, reduceCtorEq, n1, n2, n3, n4, n5, n6, hlt, hx, hw, Lnk.row, Lnk.enc]; rfl); all_goals (intro hcnd; first | (exact absurd hcnd (by decide)) | skip)) | ((first | refine guardC_f ?_ ?_ | refine guardC_t ?_ ?_) <;> (intro hcnd; simp (decide := true) only [go_sem, reduceIte, reduceCtorEq, n1, n2, n3, n4, n5, n6, hcnd, hlt, hx, hw, Lnk.row, Lnk.enc]))))
        exact ⟨k + 1, ⟨by omega, forall_snoc (take_snoc hx) hall hd⟩, by omega, sub_ml rfl (by simp (decide := true) only [go_sem, reduceIte, reduceCtorEq, n1, n2, n3, n4, n5, n6]) (by simp (decide := true) only [go_sem, reduceIte, reduceCtorEq, n1, n2, n3, n4, n5, n6, Lnk.row])⟩
  rintro k ⟨hk, hg⟩
  rw [hg, putAt_enc]
  obtain ⟨ys, hys⟩ : ∃ ys, ys = xs.map Lnk.enc := ⟨_, rfl⟩
  have hyl : ys.length = xs.length := by rw [hys]; simp
  have hz : ∀ r ∈ ys, r.length = 2 := by rw [hys]; exact lenc_sz xs
  have hvl : (Lnk.enc c).length = 2 := rfl
  rw [← hys]
  refine dw_seq ?_
  apply dw_tree (id := 6) (N := 30) [0, 2] [4] (.two 1 (.run [3, 4, 5, 6] .leaf) 3 (.two 1 (.run [4, 5, 6] .leaf) 4 (.run [1, 5, 6] .leaf)))
  kernel_rfl
  rfl
  kernel_rfl
  have hfz : ∀ r ∈ ys.take k ++ Lnk.enc c :: ys.drop k, r.length = 2 := fun r hr => by
    simp only [List.mem_append, List.mem_cons] at hr
    rcases hr with h | rfl | h
    · exact hz r (List.mem_of_mem_take h)
    · rfl
    · exact hz r (List.mem_of_mem_drop h)
  have hfl : (ys.take k ++ Lnk.enc c :: ys.drop k).length = ys.length + 1 := by simp; omega
  have hle0 : ys.length + 1 ≤ (ys.take k ++ Lnk.enc c :: ys.drop k).length := by omega
  have htk : (ys.take k ++ Lnk.enc c :: ys.drop k).take (ys.length + 1) = ys.take k ++ Lnk.enc c :: ys.drop k := by rw [← hfl, List.take_length]
  simp (decide := true) only [go_sem, reduceIte, reduceCtorEq, n1, n2, n3, n4, n5, n6, Lnk.row]
  refine ⟨?_, ?_, ?_⟩
  · refine CallC.eff [] (cloneL_E ys hz (by omega)) rfl (DLeL.of_eq (by simp (decide := true) only [go_sem, reduceIte, reduceCtorEq, n1, n2, n3, n4, n5, n6])) (fun k r h => by cases h) (by constructor <;> simp) ?_
    rintro r H' ⟨j, rfl, rfl⟩
    simp (decide := true) only [go_sem, reduceIte, reduceCtorEq, n1, n2, n3, n4, n5, n6, callMemAft, Lnk.row]
    refine StepC.mk (Step.buildOne (sz := 2) (by_ := 16) (ns := c.row) rfl rfl (by simp (decide := true) only [go_sem, reduceIte, reduceCtorEq, n1, n2, n3, n4, n5, n6]) (by decide) (by simp (decide := true) only [go_sem, reduceIte, reduceCtorEq, n1, n2, n3, n4, n5, n6, Lnk.row]) rfl ?_)
    simp (decide := true) only [go_sem, reduceIte, reduceCtorEq, n1, n2, n3, n4, n5, n6, callMemAft, Lnk.row]
    refine CallC.sub (sub_mv 25 1000 (by decide)) rfl ?_
    simp (decide := true) only [go_sem, reduceIte, reduceCtorEq, n1, n2, n3, n4, n5, n6]
    refine CallC.eff [28] (insL_E 28 ys j (Lnk.enc c) hz hvl k (by omega) (by omega)) rfl (DLeL.of_eq (by simp (decide := true) only [go_sem, reduceIte, reduceCtorEq, n1, n2, n3, n4, n5, n6])) (listMem_call (by decide) (by simp (decide := true) only [go_sem, reduceIte, reduceCtorEq, n1, n2, n3, n4, n5, n6, callMemAft]) (by simp (decide := true) only [go_sem, reduceIte, reduceCtorEq, n1, n2, n3, n4, n5, n6, Lnk.row] <;> rfl)) (by constructor <;> simp [mid]) ?_
    rintro r H' ⟨j', rfl, rfl⟩
    simp (decide := true) only [go_sem, reduceIte, reduceCtorEq, n1, n2, n3, n4, n5, n6]
    refine dw_frz 1000 2 (ys.take k ++ Lnk.enc c :: ys.drop k) (anyRows j' 2) (by decide) (by simp (decide := true) only [go_sem, reduceIte, reduceCtorEq, n1, n2, n3, n4, n5, n6, callMemAft]; rfl) hfz ?_
    refine dw_ret ?_; simp (decide := true) only [go_sem, reduceIte, reduceCtorEq, n1, n2, n3, n4, n5, n6, hle0, htk]
  · refine CallC.eff [] (cloneL_E ys hz (by omega)) rfl (DLeL.of_eq (by simp (decide := true) only [go_sem, reduceIte, reduceCtorEq, n1, n2, n3, n4, n5, n6])) (fun k r h => by cases h) (by constructor <;> simp) ?_
    rintro r H' ⟨j, rfl, rfl⟩
    simp (decide := true) only [go_sem, reduceIte, reduceCtorEq, n1, n2, n3, n4, n5, n6, callMemAft, Lnk.row]
    refine StepC.mk (Step.buildOne (sz := 2) (by_ := 16) (ns := c.row) rfl rfl (by simp (decide := true) only [go_sem, reduceIte, reduceCtorEq, n1, n2, n3, n4, n5, n6]) (by decide) (by simp (decide := true) only [go_sem, reduceIte, reduceCtorEq, n1, n2, n3, n4, n5, n6, Lnk.row]) rfl ?_)
    simp (decide := true) only [go_sem, reduceIte, reduceCtorEq, n1, n2, n3, n4, n5, n6, callMemAft, Lnk.row]
    refine CallC.sub (sub_mv 25 1000 (by decide)) rfl ?_
    simp (decide := true) only [go_sem, reduceIte, reduceCtorEq, n1, n2, n3, n4, n5, n6]
    refine CallC.eff [28] (insL_E 28 ys j (Lnk.enc c) hz hvl k (by omega) (by omega)) rfl (DLeL.of_eq (by simp (decide := true) only [go_sem, reduceIte, reduceCtorEq, n1, n2, n3, n4, n5, n6])) (listMem_call (by decide) (by simp (decide := true) only [go_sem, reduceIte, reduceCtorEq, n1, n2, n3, n4, n5, n6, callMemAft]) (by simp (decide := true) only [go_sem, reduceIte, reduceCtorEq, n1, n2, n3, n4, n5, n6, Lnk.row] <;> rfl)) (by constructor <;> simp [mid]) ?_
    rintro r H' ⟨j', rfl, rfl⟩
    simp (decide := true) only [go_sem, reduceIte, reduceCtorEq, n1, n2, n3, n4, n5, n6]
    refine dw_frz 1000 2 (ys.take k ++ Lnk.enc c :: ys.drop k) (anyRows j' 2) (by decide) (by simp (decide := true) only [go_sem, reduceIte, reduceCtorEq, n1, n2, n3, n4, n5, n6, callMemAft]; rfl) hfz ?_
    refine dw_ret ?_; simp (decide := true) only [go_sem, reduceIte, reduceCtorEq, n1, n2, n3, n4, n5, n6, hle0, htk]
  · refine StepC.mk (Step.buildOne (sz := 2) (by_ := 16) (ns := c.row) rfl rfl (by simp (decide := true) only [go_sem, reduceIte, reduceCtorEq, n1, n2, n3, n4, n5, n6]) (by decide) (by simp (decide := true) only [go_sem, reduceIte, reduceCtorEq, n1, n2, n3, n4, n5, n6, Lnk.row]) rfl ?_)
    simp (decide := true) only [go_sem, reduceIte, reduceCtorEq, n1, n2, n3, n4, n5, n6, callMemAft, Lnk.row]
    refine CallC.eff [] (cloneL_E ys hz (by omega)) rfl (DLeL.of_eq (by simp (decide := true) only [go_sem, reduceIte, reduceCtorEq, n1, n2, n3, n4, n5, n6])) (fun k r h => by cases h) (by constructor <;> simp) ?_
    rintro r H' ⟨j, rfl, rfl⟩
    simp (decide := true) only [go_sem, reduceIte, reduceCtorEq, n1, n2, n3, n4, n5, n6, callMemAft, Lnk.row]
    refine CallC.sub (sub_mv 25 1000 (by decide)) rfl ?_
    simp (decide := true) only [go_sem, reduceIte, reduceCtorEq, n1, n2, n3, n4, n5, n6]
    refine CallC.eff [28] (insL_E 28 ys j (Lnk.enc c) hz hvl k (by omega) (by omega)) rfl (DLeL.of_eq (by simp (decide := true) only [go_sem, reduceIte, reduceCtorEq, n1, n2, n3, n4, n5, n6])) (listMem_call (by decide) (by simp (decide := true) only [go_sem, reduceIte, reduceCtorEq, n1, n2, n3, n4, n5, n6, callMemAft]) (by simp (decide := true) only [go_sem, reduceIte, reduceCtorEq, n1, n2, n3, n4, n5, n6, Lnk.row] <;> rfl)) (by constructor <;> simp [mid]) ?_
    rintro r H' ⟨j', rfl, rfl⟩
    simp (decide := true) only [go_sem, reduceIte, reduceCtorEq, n1, n2, n3, n4, n5, n6]
    refine dw_frz 1000 2 (ys.take k ++ Lnk.enc c :: ys.drop k) (anyRows j' 2) (by decide) (by simp (decide := true) only [go_sem, reduceIte, reduceCtorEq, n1, n2, n3, n4, n5, n6, callMemAft]; rfl) hfz ?_
    refine dw_ret ?_; simp (decide := true) only [go_sem, reduceIte, reduceCtorEq, n1, n2, n3, n4, n5, n6, hle0, htk]

set_option maxRecDepth 10000 in
set_option maxHeartbeats 4000000 in
--F39
theorem with_D (xs : List Lnk) (c : Lnk) (hl : xs.length ≤ 100000) : DCalls Try.prog 39 [dv (.sl 2 (xs.map Lnk.enc)), .agg c.row] (dv (.sl 2 ((withL xs c).map Lnk.enc))) := by
  have hmax : maxLen = 9223372036854775807 := rfl
  refine dcalls (N := 35) (rs := [.tmp 4]) (by kernel_rfl) Try.func39 rfl rfl rfl (by simp) ?_
  (repeat' (first | (refine dw_seq ?_) | (refine dw_block ?_) | ((first | (refine dw_reg (N := 35) rfl (by kernel_rfl) ?_) | (apply dw_drw (id := 2) (N := 35) [(0, .light), (1, .light), (2, .light), (3, .light), (4, .light), (5, .light), (6, .light), (7, .light), (8, .light), (9, .light), (10, .step), (11, .light)]; kernel_rfl; rfl; kernel_rfl; (repeat (first | exact Picks.nil | (apply Picks.cons; rfl)))) | (refine dw_skip ?_) | (refine dw_exit ?_)); simp (decide := true) only [go_sem, reduceIte, reduceCtorEq, n1, n2, n3, n4, n5, n6, Lnk.row]) | (apply dw_cond; (simp (decide := true) only [go_sem, reduceIte, reduceCtorEq, n1, n2, n3, n4, n5, n6, Lnk.row]; rfl); all_goals (intro hcnd; first | (exact absurd hcnd (by decide)) | skip)) | ((first | refine guardC_f ?_ ?_ | refine guardC_t ?_ ?_) <;> (intro hcnd; simp (decide := true) only [go_sem, reduceIte, reduceCtorEq, n1, n2, n3, n4, n5, n6, hcnd, Lnk.row]))))
  refine dw_after (fun k : Nat => kn 35 [(0, dv (.sl 2 (xs.map Lnk.enc))), (3, .one (.bx 3 2 0 0)), (5, dv (li k))] (ml [(3, [c.row])])) (fun k => k ≤ xs.length ∧ withL xs c = putAt xs c k) ?_ ?_
  · refine dw_loop_fam (fun k : Nat => kn 35 [(0, dv (.sl 2 (xs.map Lnk.enc))), (3, .one (.bx 3 2 0 0)), (5, dv (li k))] (ml [(3, [c.row])])) (fun k => k ≤ xs.length ∧ ∀ x ∈ xs.take k, lessL x c = true) (fun k => xs.length - k) 0 (sub_ml rfl (by simp (decide := true) only [go_sem, reduceIte, reduceCtorEq, n1, n2, n3, n4, n5, n6]) (by simp (decide := true) only [go_sem, reduceIte, reduceCtorEq, n1, n2, n3, n4, n5, n6, Lnk.row])) ⟨by omega, by simp⟩ ?_
    rintro k ⟨hk, hall⟩
    have hdone : (∀ x, xs[k]? = some x → lessL x c = false) → withL xs c = putAt xs c k := fun h => by
      rw [withL, lowI, tw_at hall hk h]
    cases hlt : decide ((k : Int) < (xs.length : Int))
    · have hke : k = xs.length := by simp at hlt; omega
      (repeat' (first | (refine dw_seq ?_) | (refine dw_block ?_) | ((first | (refine dw_reg (N := 35) rfl (by kernel_rfl) ?_) | (apply dw_drw (id := 2) (N := 35) [(0, .light), (1, .light), (2, .light), (3, .light), (4, .light), (5, .light), (6, .light), (7, .light), (8, .light), (9, .light), (10, .step), (11, .light)]; kernel_rfl; rfl; kernel_rfl; (repeat (first | exact Picks.nil | (apply Picks.cons; rfl)))) | (refine dw_skip ?_) | (refine dw_exit ?_)); simp (decide := true) only [go_sem, reduceIte, reduceCtorEq, n1, n2, n3, n4, n5, n6, hlt, Lnk.row]) | (apply dw_cond; (simp (decide := true) only [go_sem, reduceIte, reduceCtorEq, n1, n2, n3, n4, n5, n6, hlt, Lnk.row]; rfl); all_goals (intro hcnd; first | (exact absurd hcnd (by decide)) | skip)) | ((first | refine guardC_f ?_ ?_ | refine guardC_t ?_ ?_) <;> (intro hcnd; simp (decide := true) only [go_sem, reduceIte, reduceCtorEq, n1, n2, n3, n4, n5, n6, hcnd, hlt, Lnk.row]))))
      exact ⟨k, ⟨hk, hdone (fun x hx => by rw [hke] at hx; simp at hx)⟩, sub_ml rfl (by simp (decide := true) only [go_sem, reduceIte, reduceCtorEq, n1, n2, n3, n4, n5, n6]) (by simp (decide := true) only [go_sem, reduceIte, reduceCtorEq, n1, n2, n3, n4, n5, n6, Lnk.row])⟩
    · have hkl : k < xs.length := by simpa using hlt
      have hx : xs[k]? = some xs[k] := List.getElem?_eq_getElem hkl
      have hw := wrap_succ k (by omega)
      obtain ⟨x, hxe⟩ : ∃ x, x = xs[k] := ⟨_, rfl⟩
      rw [← hxe] at hx
      have hle := before_D x c
      simp only [Lnk.row] at hle
      cases hd : lessL x c
      · rw [hd] at hle
        (repeat' (first | (refine dw_seq ?_) | (refine dw_block ?_) | ((first | (refine dw_reg (N := 35) rfl (by kernel_rfl) ?_) | (apply dw_drw (id := 2) (N := 35) [(0, .light), (1, .light), (2, .light), (3, .light), (4, .light), (5, .light), (6, .light), (7, .light), (8, .light), (9, .light), (10, .step), (11, .light)]; kernel_rfl; rfl; kernel_rfl; (repeat (first | exact Picks.nil | (apply Picks.cons; rfl)))) | (refine dw_skip ?_) | (refine dw_exit ?_) | (refine CallC.mk (hle) (LeL.of_eq rfl) ?_) | (refine CallC.light (hle) (LeL.of_eq rfl) ?_)); simp (decide := true) only [go_sem, reduceIte, reduceCtorEq, n1, n2, n3, n4, n5, n6, hlt, hx, Lnk.row, Lnk.enc]) | (apply dw_cond; (simp (decide := true) only [go_sem, reduceIte, reduceCtorEq, n1, n2, n3, n4, n5, n6, hlt, hx, Lnk.row, Lnk.enc]; rfl); all_goals (intro hcnd; first | (exact absurd hcnd (by decide)) | skip)) | ((first | refine guardC_f ?_ ?_ | refine guardC_t ?_ ?_) <;> (intro hcnd; simp (decide := true) only [go_sem, reduceIte, reduceCtorEq, n1, n2, n3, n4, n5, n6, hcnd, hlt, hx, Lnk.row, Lnk.enc]))))
        exact ⟨k, ⟨hk, hdone (fun y h => by rw [hx] at h; injection h with h; rw [← h]; exact hd)⟩, sub_ml rfl (by simp (decide := true) only [go_sem, reduceIte, reduceCtorEq, n1, n2, n3, n4, n5, n6]) (by simp (decide := true) only [go_sem, reduceIte, reduceCtorEq, n1, n2, n3, n4, n5, n6, Lnk.row])⟩
      · rw [hd] at hle
        (repeat' (first | (refine dw_seq ?_) | (refine dw_block ?_) | ((first | (refine dw_reg (N := 35) rfl (by kernel_rfl) ?_) | (apply dw_drw (id := 2) (N := 35) [(0, .light), (1, .light), (2, .light), (3, .light), (4, .light), (5, .light), (6, .light), (7, .light), (8, .light), (9, .light), (10, .step), (11, .light)]; kernel_rfl; rfl; kernel_rfl; (repeat (first | exact Picks.nil | (apply Picks.cons; rfl)))) | (refine dw_skip ?_) | (refine dw_exit ?_) | (refine CallC.mk (hle) (LeL.of_eq rfl) ?_) | (refine CallC.light (hle) (LeL.of_eq rfl) ?_)); simp (decide := true) only [go_sem, reduceIte, reduceCtorEq, n1, n2, n3, n4, n5, n6, hlt, hx, hw, Lnk.row, Lnk.enc]) | (apply dw_cond; (simp (decide := true) only [go_sem, reduceIte, reduceCtorEq, n1, n2, n3, n4, n5, n6, hlt, hx, hw, Lnk.row, Lnk.enc]; rfl); all_goals (intro hcnd; first | (exact absurd hcnd (by decide)) | skip)) | ((first | refine guardC_f ?_ ?_ | refine guardC_t ?_ ?_) <;> (intro hcnd; simp (decide := true) only [go_sem, reduceIte, reduceCtorEq, n1, n2, n3, n4, n5, n6, hcnd, hlt, hx, hw, Lnk.row, Lnk.enc]))))
        exact ⟨k + 1, ⟨by omega, forall_snoc (take_snoc hx) hall hd⟩, by omega, sub_ml rfl (by simp (decide := true) only [go_sem, reduceIte, reduceCtorEq, n1, n2, n3, n4, n5, n6]) (by simp (decide := true) only [go_sem, reduceIte, reduceCtorEq, n1, n2, n3, n4, n5, n6, Lnk.row])⟩
  rintro k ⟨hk, hg⟩
  rw [hg, putAt_enc]
  obtain ⟨ys, hys⟩ : ∃ ys, ys = xs.map Lnk.enc := ⟨_, rfl⟩
  have hyl : ys.length = xs.length := by rw [hys]; simp
  rw [← hys]
  have hky : k ≤ ys.length := by omega
  have h0 := Nat.zero_le k
  have hlt : (ys.take k).length = k := by simp; omega
  have hld : (ys.drop k).length = ys.length - k := by simp
  have hb1 : k * 16 ≤ 140737488355328 := by omega
  have hb2 : (k + 1) * 16 ≤ 140737488355328 := by omega
  have hb3 : (k + 1 + (ys.length - k)) * 16 ≤ 140737488355328 := by omega
  (repeat (first | (refine dw_seq ?_) | (refine dw_block ?_) | ((first | (refine dw_reg (N := 35) rfl (by kernel_rfl) ?_) | (apply dw_drw (id := 2) (N := 35) [(0, .light), (1, .light), (2, .light), (3, .light), (4, .light), (5, .light), (6, .light), (7, .light), (8, .light), (9, .light), (10, .step), (11, .light)]; kernel_rfl; rfl; kernel_rfl; (repeat (first | exact Picks.nil | (apply Picks.cons; rfl)))) | (refine dw_skip ?_) | (refine dw_exit ?_)); simp (decide := true) only [go_sem, reduceIte, reduceCtorEq, n1, n2, n3, n4, n5, n6, hky, h0, hlt, hld, hb1, hb2, hb3, Lnk.row, List.length_append, List.take_length])))
  refine dw_weaken (sub_kn (N := 35) (sls := [(4, dv (.sl 2 (ys.take k ++ Lnk.enc c :: ys.drop k)))]) (bx := noMem) rfl (by simp (decide := true) only [go_sem, reduceIte, reduceCtorEq, n1, n2, n3, n4, n5, n6, List.append_assoc, Lnk.enc]) (by simp [noMem])) ?_
  refine dw_ret ?_; simp (decide := true) only [go_sem, reduceIte, reduceCtorEq, n1, n2, n3, n4, n5, n6]

set_option maxRecDepth 10000 in
set_option maxHeartbeats 4000000 in
--F44
theorem rWithout_D (xs : List Lnk) (c : Lnk) (hl : xs.length ≤ 100000) : DCalls Try.prog 44 [dv (.sl 2 (xs.map Lnk.enc)), .agg c.row] (dv (.sl 2 ((xs.filter fun x => !decide (x = c)).map Lnk.enc))) := by
  have hmax : maxLen = 9223372036854775807 := rfl
  refine dcalls (N := 27) (rs := [.tmp 4]) (by kernel_rfl) Try.func44 rfl rfl rfl (by simp) ?_
  (repeat' (first | (refine dw_seq ?_) | (refine dw_block ?_) | ((first | (refine dw_reg (N := 27) rfl (by kernel_rfl) ?_) | (apply dw_drw (id := 5) (N := 27) [(0, .light), (1, .light), (2, .light), (3, .light), (4, .light), (5, .light)]; kernel_rfl; rfl; kernel_rfl; (repeat (first | exact Picks.nil | (apply Picks.cons; rfl)))) | (refine dw_skip ?_) | (refine dw_exit ?_)); simp (decide := true) only [go_sem, reduceIte, reduceCtorEq, n1, n2, n3, n4, n5, n6, Lnk.row]) | (apply dw_cond; (simp (decide := true) only [go_sem, reduceIte, reduceCtorEq, n1, n2, n3, n4, n5, n6, Lnk.row]; rfl); all_goals (intro hcnd; first | (exact absurd hcnd (by decide)) | skip)) | ((first | refine guardC_f ?_ ?_ | refine guardC_t ?_ ?_) <;> (intro hcnd; simp (decide := true) only [go_sem, reduceIte, reduceCtorEq, n1, n2, n3, n4, n5, n6, hcnd, Lnk.row]))))
  refine dw_own 5 5 2 (by simp (decide := true) only [go_sem, reduceIte, reduceCtorEq, n1, n2, n3, n4, n5, n6]) ?_
  refine dw_rng0 xs (fun k => kn 27 [(0, dv (.sl 2 (xs.map Lnk.enc))), (3, .one (.bx 3 2 0 0)), (5, .one (.own 5 2 (((xs.take k).filter fun x => !decide (x = c)).map Lnk.enc))), (6, dv (li k))] (ml [(3, [c.row])])) (by omega)
    (sub_ml rfl (by simp (decide := true) only [go_sem, reduceIte, reduceCtorEq, n1, n2, n3, n4, n5, n6, List.take_zero, List.filter_nil]) (by simp (decide := true) only [go_sem, reduceIte, reduceCtorEq, n1, n2, n3, n4, n5, n6, Lnk.row])) ?_ ?_
  · intro k x hx hk hm htk hlt hw
    have hfil : ((xs.take (k + 1)).filter fun x => !decide (x = c)).map Lnk.enc = ((xs.take k).filter fun x => !decide (x = c)).map Lnk.enc ++ if x = c then [] else [Lnk.enc x] := by
      rw [htk, List.filter_append, List.map_append]; congr 1; by_cases h : x = c <;> simp [List.filter_cons, h]
    have hle : ((xs.take k).filter fun x => !decide (x = c)).length ≤ k := by
      have h1 := List.length_filter_le (fun x => !decide (x = c)) (xs.take k)
      have h2 : (xs.take k).length ≤ k := by simp; omega
      omega
    have hb9 : (((xs.take k).filter fun x => !decide (x = c)).length + 1) * 16 ≤ 140737488355328 := by omega
    have he : (x.kind == c.kind && (x.to == c.to)) = decide (x = c) := lnk_eq x c
    by_cases h4 : x = c
    · have h5 : decide (x = c) = true := by simpa using h4
      (repeat' (first | (refine dw_seq ?_) | (refine dw_block ?_) | ((first | (refine dw_reg (N := 27) rfl (by kernel_rfl) ?_) | (apply dw_drw (id := 5) (N := 27) [(0, .light), (1, .light), (2, .light), (3, .light), (4, .light), (5, .light)]; kernel_rfl; rfl; kernel_rfl; (repeat (first | exact Picks.nil | (apply Picks.cons; rfl)))) | (refine dw_skip ?_) | (refine dw_exit ?_)); simp (decide := true) only [go_sem, reduceIte, reduceCtorEq, n1, n2, n3, n4, n5, n6, hlt, hw, hx, he, h5, Lnk.enc, Lnk.row]) | (apply dw_cond; (simp (decide := true) only [go_sem, reduceIte, reduceCtorEq, n1, n2, n3, n4, n5, n6, hlt, hw, hx, he, h5, Lnk.enc, Lnk.row]; rfl); all_goals (intro hcnd; first | (exact absurd hcnd (by decide)) | skip)) | ((first | refine guardC_f ?_ ?_ | refine guardC_t ?_ ?_) <;> (intro hcnd; simp (decide := true) only [go_sem, reduceIte, reduceCtorEq, n1, n2, n3, n4, n5, n6, hcnd, hlt, hw, hx, he, h5, Lnk.enc, Lnk.row]))))
      exact sub_ml rfl (by simp (decide := true) only [go_sem, reduceIte, reduceCtorEq, n1, n2, n3, n4, n5, n6, hfil, h4, List.append_nil]) (by simp (decide := true) only [go_sem, reduceIte, reduceCtorEq, n1, n2, n3, n4, n5, n6, Lnk.row])
    · have h5 : decide (x = c) = false := by simpa using h4
      (repeat' (first | (refine dw_seq ?_) | (refine dw_block ?_) | ((first | (refine dw_reg (N := 27) rfl (by kernel_rfl) ?_) | (apply dw_drw (id := 5) (N := 27) [(0, .light), (1, .light), (2, .light), (3, .light), (4, .light), (5, .light)]; kernel_rfl; rfl; kernel_rfl; (repeat (first | exact Picks.nil | (apply Picks.cons; rfl)))) | (refine dw_skip ?_) | (refine dw_exit ?_)); simp (decide := true) only [go_sem, reduceIte, reduceCtorEq, n1, n2, n3, n4, n5, n6, hlt, hw, hx, he, h5, hb9, Lnk.enc, Lnk.row]) | (apply dw_cond; (simp (decide := true) only [go_sem, reduceIte, reduceCtorEq, n1, n2, n3, n4, n5, n6, hlt, hw, hx, he, h5, hb9, Lnk.enc, Lnk.row]; rfl); all_goals (intro hcnd; first | (exact absurd hcnd (by decide)) | skip)) | ((first | refine guardC_f ?_ ?_ | refine guardC_t ?_ ?_) <;> (intro hcnd; simp (decide := true) only [go_sem, reduceIte, reduceCtorEq, n1, n2, n3, n4, n5, n6, hcnd, hlt, hw, hx, he, h5, hb9, Lnk.enc, Lnk.row]))))
      exact sub_ml rfl (by simp (decide := true) only [go_sem, reduceIte, reduceCtorEq, n1, n2, n3, n4, n5, n6, hfil, h4, Lnk.enc]) (by simp (decide := true) only [go_sem, reduceIte, reduceCtorEq, n1, n2, n3, n4, n5, n6, Lnk.row])
  · intro hlt
    rw [List.take_length]
    (repeat' (first | (refine dw_seq ?_) | (refine dw_block ?_) | ((first | (refine dw_reg (N := 27) rfl (by kernel_rfl) ?_) | (apply dw_drw (id := 5) (N := 27) [(0, .light), (1, .light), (2, .light), (3, .light), (4, .light), (5, .light)]; kernel_rfl; rfl; kernel_rfl; (repeat (first | exact Picks.nil | (apply Picks.cons; rfl)))) | (refine dw_skip ?_) | (refine dw_exit ?_)); simp (decide := true) only [go_sem, reduceIte, reduceCtorEq, n1, n2, n3, n4, n5, n6, hlt]) | (apply dw_cond; (simp (decide := true) only [go_sem, reduceIte, reduceCtorEq, n1, n2, n3, n4, n5, n6, hlt]; rfl); all_goals (intro hcnd; first | (exact absurd hcnd (by decide)) | skip)) | ((first | refine guardC_f ?_ ?_ | refine guardC_t ?_ ?_) <;> (intro hcnd; simp (decide := true) only [go_sem, reduceIte, reduceCtorEq, n1, n2, n3, n4, n5, n6, hcnd, hlt]))))
    refine dw_weaken (sub_kn (N := 27) (sls := [(4, dv (.sl 2 ((xs.filter fun x => !decide (x = c)).map Lnk.enc)))]) (bx := noMem) rfl (by simp (decide := true) only [go_sem, reduceIte, reduceCtorEq, n1, n2, n3, n4, n5, n6]) (by simp [noMem])) ?_
    refine dw_ret ?_; simp (decide := true) only [go_sem, reduceIte, reduceCtorEq, n1, n2, n3, n4, n5, n6]
end Go.Proofs.Ytiecekikcegnmaa

/- Links of a list in memory of one's own, taken out. -/
namespace Go.Proofs.Ytiecekikcegnmaa
open Go.Dl
attribute [local irreducible] DW DCalls ECalls wk IW

theorem crL_sz (l : List Lnk) : ∀ r ∈ cr (l.map Lnk.enc), r.length = 2 := fun r hr => by
  simp only [cr, List.mem_map] at hr
  obtain ⟨x, ⟨y, _, rfl⟩, rfl⟩ := hr
  simp [Lnk.enc]

/-- A function value tells p of a link. -/
def Tells (g : FuncId) (caps : List C) (p : Lnk → Bool) (l : List Lnk) : Prop := ∀ x ∈ l, DCalls Try.prog g ((.agg x.row) :: caps.map fun c => D.one (.c c)) (dv (lb (p x)))

noncomputable def lMem (l : List Lnk) (j a : Nat) : Mem := ml [(a + NB, cr (l.map Lnk.enc) ++ anyRows j 2)]

set_option maxRecDepth 10000 in
set_option maxHeartbeats 4000000 in
--F66
theorem idxFL_E (l : List Lnk) (j a : Nat) (g : FuncId) (caps : List C) (p : Lnk → Bool) (hp : Tells g caps p l) (hl : l.length ≤ 100000) :
    ECalls Try.prog 66 [.one (.ba (a + NB) 2 0 l.length (l.length + j)), dv (.fn g caps)] (lMem l j a) (fun r H' => r = dv (li (idxF p l)) ∧ H' = lMem l j a) := by
  have hmax : maxLen = 9223372036854775807 := rfl
  refine ecalls (N := 19) (rs := [.tmp 4]) (by kernel_rfl) Try.func66 rfl rfl rfl (by simp) ?_
  (repeat (first | (refine dw_seq ?_) | (refine dw_block ?_) | ((first | (refine dw_reg (N := 19) rfl (by kernel_rfl) ?_) | (refine dw_skip ?_) | (refine dw_exit ?_)); simp (decide := true) only [go_sem, reduceIte, reduceCtorEq, n1, n2, n3, n4, n5, n6])))
  refine dw_rngI l (fun k => kn 19 [(0, .one (.ba (a + NB) 2 0 l.length (l.length + j))), (1, dv (.fn g caps)), (7, dv (li l.length)), (8, dv (li k))] (lMem l j a)) (fun k => ∀ x ∈ l.take k, p x = false) (by omega) (sub_kn rfl (by simp (decide := true) only [go_sem, reduceIte, reduceCtorEq, n1, n2, n3, n4, n5, n6]) (fun k r h => h)) (by simp) ?_ ?_
  · intro k x hx hk hm htk hlt hw hi
    have hc := hp x hm
    simp only [Lnk.row] at hc
    have hrow : (cr (l.map Lnk.enc) ++ anyRows j 2)[k]? = some [.c (li x.kind), .c (li x.to)] := cr_at (x := Lnk.enc x) (by simp [hx])
    (repeat' (first | (refine dw_seq ?_) | (refine dw_block ?_) | ((first | (refine dw_reg (N := 19) rfl (by kernel_rfl) ?_) | (refine dw_skip ?_) | (refine dw_exit ?_) | (refine CallC.mk (hc) (LeL.of_eq rfl) ?_) | (refine CallC.light (hc) (LeL.of_eq rfl) ?_) | (refine dw_ret ?_)); simp (decide := true) only [go_sem, reduceIte, reduceCtorEq, n1, n2, n3, n4, n5, n6, hlt, hw, hk, hrow, lMem]) | (apply dw_cond; (simp (decide := true) only [go_sem, reduceIte, reduceCtorEq, n1, n2, n3, n4, n5, n6, hlt, hw, hk, hrow, lMem]; rfl); all_goals (intro hcnd; first | (exact absurd hcnd (by decide)) | skip)) | ((first | refine guardC_f ?_ ?_ | refine guardC_t ?_ ?_) <;> (intro hcnd; simp (decide := true) only [go_sem, reduceIte, reduceCtorEq, n1, n2, n3, n4, n5, n6, hcnd, hlt, hw, hk, hrow, lMem]))))
    · rw [idxF_at hx hi hcnd]; exact ⟨rfl, rfl⟩
    · exact ⟨forall_snoc htk hi hcnd, sub_ml rfl (by simp (decide := true) only [go_sem, reduceIte, reduceCtorEq, n1, n2, n3, n4, n5, n6]) (by simp (decide := true) only [go_sem, reduceIte, reduceCtorEq, n1, n2, n3, n4, n5, n6])⟩
  · intro hlt hi
    rw [List.take_length] at hi
    (repeat' (first | (refine dw_seq ?_) | (refine dw_block ?_) | ((first | (refine dw_reg (N := 19) rfl (by kernel_rfl) ?_) | (refine dw_skip ?_) | (refine dw_exit ?_)); simp (decide := true) only [go_sem, reduceIte, reduceCtorEq, n1, n2, n3, n4, n5, n6, hlt, lMem]) | (apply dw_cond; (simp (decide := true) only [go_sem, reduceIte, reduceCtorEq, n1, n2, n3, n4, n5, n6, hlt, lMem]; rfl); all_goals (intro hcnd; first | (exact absurd hcnd (by decide)) | skip)) | ((first | refine guardC_f ?_ ?_ | refine guardC_t ?_ ?_) <;> (intro hcnd; simp (decide := true) only [go_sem, reduceIte, reduceCtorEq, n1, n2, n3, n4, n5, n6, hcnd, hlt, lMem]))))
    rw [idxF_no hi]
    refine dw_ret ?_; simp (decide := true) only [go_sem, reduceIte, reduceCtorEq, n1, n2, n3, n4, n5, n6]
    rfl

theorem filter_split {α : Type} {q : α → Bool} {l : List α} {i : Nat} {x : α} (hx : l[i]? = some x) (hi : ∀ y ∈ l.take i, q y = false) (h : q x = true) : (l.take (i + 1)).filter (fun y => !q y) = l.take i := by
  rw [take_snoc hx, List.filter_append]
  have h1 : (l.take i).filter (fun y => !q y) = l.take i := List.filter_eq_self.2 fun y hy => by rw [hi y hy]; rfl
  rw [h1]; simp [h]

set_option maxRecDepth 10000 in
set_option maxHeartbeats 8000000 in
--F58
theorem delL_E (l : List Lnk) (j a : Nat) (g : FuncId) (caps : List C) (p : Lnk → Bool) (hp : Tells g caps p l) (hl : l.length ≤ 100000) :
    ECalls Try.prog 58 [.one (.ba (a + NB) 2 0 l.length (l.length + j)), dv (.fn g caps)] (lMem l j a)
      (fun r H' => ∃ j', r = .one (.ba (a + NB) 2 0 (l.filter fun x => !p x).length (l.length + j)) ∧ H' = lMem (l.filter fun x => !p x) j' a) := by
  have hmax : maxLen = 9223372036854775807 := rfl
  have hidx := idxFL_E l j (a + NB) g caps p hp hl
  refine ecalls (N := 42) (rs := [.tmp 4]) (by kernel_rfl) Try.func58 rfl rfl rfl (by simp) ?_
  (repeat (first | (refine dw_seq ?_) | (refine dw_block ?_) | ((first | (refine dw_reg (N := 42) rfl (by kernel_rfl) ?_) | (refine dw_skip ?_) | (refine dw_exit ?_)); simp (decide := true) only [go_sem, reduceIte, reduceCtorEq, n1, n2, n3, n4, n5, n6])))
  refine CallC.eff [a + NB] hidx rfl (DLeL.of_eq (by simp (decide := true) only [go_sem, reduceIte, reduceCtorEq, n1, n2, n3, n4, n5, n6])) (fun k r h => ?_) ⟨fun n hn => ?_, fun n hn => ?_⟩ ?_
  · by_cases hk : k = a + NB + NB
    · subst hk
      simp (decide := true) only [go_sem, reduceIte, reduceCtorEq, n1, n2, n3, n4, n5, n6, lMem] at h
      simp (decide := true) only [go_sem, reduceIte, reduceCtorEq, n1, n2, n3, n4, n5, n6, callMem, lMem]
      rw [← h]
    · simp (decide := true) only [go_sem, reduceIte, reduceCtorEq, n1, n2, n3, n4, n5, n6, lMem, hk] at h
  · simp only [List.mem_singleton] at hn
    subst hn; exact notmidNB (Nat.le_add_left _ _)
  · injection hn with hn; subst hn
    have := NB_big
    exact ⟨by simp; omega, by omega⟩
  rintro r H' ⟨rfl, rfl⟩
  have hnz : (NB = 0) = False := nb_z
  cases hf : l.find? p with
  | none =>
    have hno := find_nex hf
    rw [idxF_no hno]
    have hfl : (l.filter fun x => !p x) = l := List.filter_eq_self.2 fun y hy => by rw [hno y hy]; rfl
    simp (decide := true) only [go_sem, reduceIte, reduceCtorEq, n1, n2, n3, n4, n5, n6]
    (repeat (first | (refine dw_seq ?_) | (refine dw_block ?_) | ((first | (refine dw_reg (N := 42) rfl (by kernel_rfl) ?_) | (refine dw_skip ?_) | (refine dw_exit ?_)); simp (decide := true) only [go_sem, reduceIte, reduceCtorEq, n1, n2, n3, n4, n5, n6])))
    (repeat' (first | (refine dw_seq ?_) | (refine dw_block ?_) | ((first | (refine dw_reg (N := 42) rfl (by kernel_rfl) ?_) | (refine dw_skip ?_) | (refine dw_exit ?_)); simp (decide := true) only [go_sem, reduceIte, reduceCtorEq, n1, n2, n3, n4, n5, n6, callMemAft, lMem, hnz]) | (apply dw_cond; (simp (decide := true) only [go_sem, reduceIte, reduceCtorEq, n1, n2, n3, n4, n5, n6, callMemAft, lMem, hnz]; rfl); all_goals (intro hcnd; first | (exact absurd hcnd (by decide)) | skip)) | ((first | refine guardC_f ?_ ?_ | refine guardC_t ?_ ?_) <;> (intro hcnd; simp (decide := true) only [go_sem, reduceIte, reduceCtorEq, n1, n2, n3, n4, n5, n6, hcnd, callMemAft, lMem, hnz]))))
    refine dw_weaken (sub_ml (N := 42) (sls := [(4, .one (.ba (a + NB) 2 0 l.length (l.length + j)))]) (bxs := [(a + NB, cr (l.map Lnk.enc) ++ anyRows j 2)]) rfl (by simp (decide := true) only [go_sem, reduceIte, reduceCtorEq, n1, n2, n3, n4, n5, n6, callMemAft, lMem, hnz]) (by simp (decide := true) only [go_sem, reduceIte, reduceCtorEq, n1, n2, n3, n4, n5, n6, callMemAft, lMem, hnz])) ?_
    refine dw_ret ?_; simp (decide := true) only [go_sem, reduceIte, reduceCtorEq, n1, n2, n3, n4, n5, n6]
    exact ⟨j, by rw [hfl], by rw [hfl]; rfl⟩
  | some x =>
    obtain ⟨i, hi, hii, hiq⟩ := find_ex hf
    rw [idxF_at hi hii hiq]
    have hil : i < l.length := (List.getElem?_eq_some_iff.1 hi).1
    have h64 : ∀ z : Int, -1 ≤ z → z ≤ 10000000 → IntKind.wrap .i64 z = z := fun z h1 h2 => wrap_i64 (by omega) (by omega)
    obtain ⟨K, hK⟩ : ∃ K : Nat → List Lnk, K = fun k => (l.take k).filter fun y => !p y := ⟨_, rfl⟩
    have hK0 : K (i + 1) = l.take i := by rw [hK]; exact filter_split hi hii hiq
    have hK0l : (K (i + 1)).length = i := by rw [hK0, List.length_take]; omega
    have hKs : ∀ k (h : k < l.length), K (k + 1) = K k ++ if p l[k] then [] else [l[k]] := fun k h => by
      rw [hK]; simp only []
      rw [take_snoc (List.getElem?_eq_getElem h), List.filter_append]
      congr 1
      cases hpk : p l[k] <;> simp [hpk]
    have hmem : K (i + 1) ++ l.drop i = l := by rw [hK0, List.take_append_drop]
    have hw0 : IntKind.wrap .i64 ((i : Int) + 1) = ((i + 1 : Nat) : Int) := by rw [h64 _ (by omega) (by omega)]; omega
    have hi1 : ((i : Int) == -1) = false := beq_eq_false_iff_ne.2 (by omega)
    simp (decide := true) only [go_sem, reduceIte, reduceCtorEq, n1, n2, n3, n4, n5, n6]
    (repeat (first | (refine dw_seq ?_) | (refine dw_block ?_) | ((first | (refine dw_reg (N := 42) rfl (by kernel_rfl) ?_) | (refine dw_skip ?_) | (refine dw_exit ?_)); simp (decide := true) only [go_sem, reduceIte, reduceCtorEq, n1, n2, n3, n4, n5, n6])))
    (repeat' (first | (refine dw_seq ?_) | (refine dw_block ?_) | ((first | (refine dw_reg (N := 42) rfl (by kernel_rfl) ?_) | (refine dw_skip ?_) | (refine dw_exit ?_)); simp (decide := true) only [go_sem, reduceIte, reduceCtorEq, n1, n2, n3, n4, n5, n6, callMemAft, lMem, hnz, hi1, hw0]) | (apply dw_cond; (simp (decide := true) only [go_sem, reduceIte, reduceCtorEq, n1, n2, n3, n4, n5, n6, callMemAft, lMem, hnz, hi1, hw0]; rfl); all_goals (intro hcnd; first | (exact absurd hcnd (by decide)) | skip)) | ((first | refine guardC_f ?_ ?_ | refine guardC_t ?_ ?_) <;> (intro hcnd; simp (decide := true) only [go_sem, reduceIte, reduceCtorEq, n1, n2, n3, n4, n5, n6, hcnd, callMemAft, lMem, hnz, hi1, hw0]))))
    refine dw_loop_fam (fun k : Nat => kn 42 [(0, .one (.ba (a + NB) 2 0 l.length (l.length + j))), (1, dv (.fn g caps)), (5, dv (li (K k).length)), (6, dv (li k))] (ml [(a + NB, cr ((K k ++ l.drop (K k).length).map Lnk.enc) ++ anyRows j 2)]))
      (fun k => i + 1 ≤ k ∧ k ≤ l.length ∧ (K k).length < k) (fun k => l.length - k) (i + 1) (sub_ml rfl (by simp (decide := true) only [go_sem, reduceIte, reduceCtorEq, n1, n2, n3, n4, n5, n6, hK0l, callMemAft, lMem, hnz]) (by simp (decide := true) only [go_sem, reduceIte, reduceCtorEq, n1, n2, n3, n4, n5, n6, hK0l, hmem, callMemAft, lMem, hnz])) ⟨by omega, by omega, by omega⟩ ?_
    rintro k ⟨hk1, hk, hkl⟩
    obtain ⟨C, hC⟩ : ∃ C, C = K k := ⟨_, rfl⟩
    rw [← hC] at hkl ⊢
    (repeat (first | (refine dw_seq ?_) | (refine dw_block ?_) | ((first | (refine dw_reg (N := 42) rfl (by kernel_rfl) ?_) | (refine dw_skip ?_) | (refine dw_exit ?_)); simp (decide := true) only [go_sem, reduceIte, reduceCtorEq, n1, n2, n3, n4, n5, n6])))
    apply dw_cond; (simp (decide := true) only [go_sem, reduceIte, reduceCtorEq, n1, n2, n3, n4, n5, n6]; rfl)
    · intro h1
      have hk' : k < l.length := by simp at h1; omega
      have hrow : (cr ((C ++ l.drop C.length).map Lnk.enc) ++ anyRows j 2)[k]? = some [.c (li l[k].kind), .c (li l[k].to)] := cr_at (x := Lnk.enc l[k]) (by
        rw [List.getElem?_map, List.getElem?_append_right (by omega), List.getElem?_drop, show C.length + (k - C.length) = k by omega, List.getElem?_eq_getElem hk']; rfl)
      have hc := hp l[k] (List.getElem_mem _)
      simp only [Lnk.row] at hc
      have hs := hKs k hk'
      rw [← hC] at hs
      have hwk : IntKind.wrap .i64 ((k : Int) + 1) = ((k + 1 : Nat) : Int) := by rw [h64 _ (by omega) (by omega)]; omega
      have hwC : IntKind.wrap .i64 ((C.length : Int) + 1) = ((C.length + 1 : Nat) : Int) := by rw [h64 _ (by omega) (by omega)]; omega
      have hCn : C.length < l.length := by omega
      have hZC : (cr ((C ++ l.drop C.length).map Lnk.enc) ++ anyRows j 2)[C.length]? = some [.c (li l[C.length].kind), .c (li l[C.length].to)] := cr_at (x := Lnk.enc l[C.length]) (by
        rw [List.getElem?_map, List.getElem?_append_right (Nat.le_refl _), List.getElem?_drop, Nat.sub_self, Nat.add_zero, List.getElem?_eq_getElem hCn]; rfl)
      have hset : (cr ((C ++ l.drop C.length).map Lnk.enc) ++ anyRows j 2).set C.length [.c (li l[k].kind), .c (li l[k].to)] = cr (((C ++ [l[k]]) ++ l.drop (C.length + 1)).map Lnk.enc) ++ anyRows j 2 := by
        rw [List.set_append_left _ _ (by simp [cr]; omega)]
        congr 1
        rw [List.drop_eq_getElem_cons hCn, List.map_append, List.map_cons, cr, List.map_append, List.set_append_right _ _ (by simp)]
        simp [cr, Lnk.enc]
      (repeat (first | (refine dw_seq ?_) | (refine dw_block ?_) | ((first | (refine dw_reg (N := 42) rfl (by kernel_rfl) ?_) | (refine dw_skip ?_) | (refine dw_exit ?_)); simp (decide := true) only [go_sem, reduceIte, reduceCtorEq, n1, n2, n3, n4, n5, n6, hk', hrow])))
      (repeat' (first | (refine dw_seq ?_) | (refine dw_block ?_) | ((first | (refine dw_reg (N := 42) rfl (by kernel_rfl) ?_) | (refine dw_skip ?_) | (refine dw_exit ?_) | (refine CallC.mk (hc) (LeL.of_eq rfl) ?_) | (refine CallC.light (hc) (LeL.of_eq rfl) ?_)); simp (decide := true) only [go_sem, reduceIte, reduceCtorEq, n1, n2, n3, n4, n5, n6, hk', hrow, hCn, hZC, hset, hwk, hwC, List.drop_succ_cons, List.drop_zero]) | (apply dw_cond; (simp (decide := true) only [go_sem, reduceIte, reduceCtorEq, n1, n2, n3, n4, n5, n6, hk', hrow, hCn, hZC, hset, hwk, hwC, List.drop_succ_cons, List.drop_zero]; rfl); all_goals (intro hcnd; first | (exact absurd hcnd (by decide)) | skip)) | ((first | refine guardC_f ?_ ?_ | refine guardC_t ?_ ?_) <;> (intro hcnd; simp (decide := true) only [go_sem, reduceIte, reduceCtorEq, n1, n2, n3, n4, n5, n6, hcnd, hk', hrow, hCn, hZC, hset, hwk, hwC, List.drop_succ_cons, List.drop_zero]))))
      · rw [Bool.not_eq_true', Bool.eq_false_iff] at hcnd
        rw [if_neg hcnd] at hs
        refine ⟨k + 1, ⟨by omega, by omega, by rw [hs]; simp; omega⟩, by omega, sub_ml rfl (by simp (decide := true) only [go_sem, reduceIte, reduceCtorEq, n1, n2, n3, n4, n5, n6, hs, List.length_append]) (by simp (decide := true) only [go_sem, reduceIte, reduceCtorEq, n1, n2, n3, n4, n5, n6, hs, List.length_append])⟩
      · have hpt : p l[k] = true := by simpa using hcnd
        rw [if_pos hpt, List.append_nil] at hs
        refine ⟨k + 1, ⟨by omega, by omega, by rw [hs]; omega⟩, by omega, sub_ml rfl (by simp (decide := true) only [go_sem, reduceIte, reduceCtorEq, n1, n2, n3, n4, n5, n6, hs, hwk]) (by simp (decide := true) only [go_sem, reduceIte, reduceCtorEq, n1, n2, n3, n4, n5, n6, hs])⟩
    · intro h1
      have hkl' : k = l.length := by simp at h1; omega
      have hC' : C = l.filter fun y => !p y := by rw [hC, hK, hkl']; simp
      have hCn : C.length ≤ l.length := by omega
      have hCj : C.length ≤ l.length + j := by omega
      have hCj0 := Nat.zero_le C.length
      have hle : l.length ≤ l.length + j := by omega
      (repeat (first | (refine dw_seq ?_) | (refine dw_block ?_) | ((first | (refine dw_reg (N := 42) rfl (by kernel_rfl) ?_) | (refine dw_skip ?_) | (refine dw_exit ?_)); simp (decide := true) only [go_sem, reduceIte, reduceCtorEq, n1, n2, n3, n4, n5, n6, hCn, hle])))
      have hrl : (cr ((C ++ l.drop C.length).map Lnk.enc)).length = l.length := by simp [cr]; omega
      refine StepC.mk (Step.clear (n := a + NB) (rows := cr ((C ++ l.drop C.length).map Lnk.enc) ++ anyRows j 2) (i := C.length) (len := l.length - C.length) (cap := l.length + j - C.length) (sz := 2) (by_ := 16) rfl (by simp (decide := true) only [go_sem, reduceIte, reduceCtorEq, n1, n2, n3, n4, n5, n6]) (by simp (decide := true) only [go_sem, reduceIte, reduceCtorEq, n1, n2, n3, n4, n5, n6]) (by simp (decide := true) only [go_sem, reduceIte, reduceCtorEq, n1, n2, n3, n4, n5, n6]) (by rw [List.length_append, hrl]; omega)
        (fun r hr => (List.mem_append.1 hr).elim (crL_sz _ r) (anyRows_sz j 2 r)) ?_)
      have hrows : (cr ((C ++ l.drop C.length).map Lnk.enc) ++ anyRows j 2).take C.length ++ (anyRows (l.length - C.length) 2 ++ (cr ((C ++ l.drop C.length).map Lnk.enc) ++ anyRows j 2).drop (C.length + (l.length - C.length))) = cr (C.map Lnk.enc) ++ anyRows (l.length - C.length + j) 2 := by
        rw [show C.length + (l.length - C.length) = (cr ((C ++ l.drop C.length).map Lnk.enc)).length by rw [hrl]; omega, List.drop_left, List.map_append, cr, List.map_append, List.append_assoc, List.take_left' (by simp)]
        congr 1
        simp [anyRows, List.replicate_append_replicate]
      rw [hrows]
      simp (decide := true) only [go_sem, reduceIte, reduceCtorEq, n1, n2, n3, n4, n5, n6]
      (repeat (first | (refine dw_seq ?_) | (refine dw_block ?_) | ((first | (refine dw_reg (N := 42) rfl (by kernel_rfl) ?_) | (refine dw_skip ?_) | (refine dw_exit ?_)); simp (decide := true) only [go_sem, reduceIte, reduceCtorEq, n1, n2, n3, n4, n5, n6, hCj, hCj0, Nat.sub_zero])))
      refine dw_weaken (sub_ml (N := 42) (sls := [(4, .one (.ba (a + NB) 2 0 C.length (l.length + j)))]) (bxs := [(a + NB, cr (C.map Lnk.enc) ++ anyRows (l.length - C.length + j) 2)]) rfl (by simp (decide := true) only [go_sem, reduceIte, reduceCtorEq, n1, n2, n3, n4, n5, n6]) (by simp (decide := true) only [go_sem, reduceIte, reduceCtorEq, n1, n2, n3, n4, n5, n6])) ?_
      refine dw_ret ?_; simp (decide := true) only [go_sem, reduceIte, reduceCtorEq, n1, n2, n3, n4, n5, n6]
      exact ⟨_, by rw [← hC'], by rw [← hC']; rfl⟩
end Go.Proofs.Ytiecekikcegnmaa

/- Links without those that a predicate takes; the predicates of Unlink and of Clear. -/
namespace Go.Proofs.Ytiecekikcegnmaa
open Go.Dl
attribute [local irreducible] DW DCalls ECalls wk IW

theorem encL_sz (l : List Lnk) : ∀ r ∈ l.map Lnk.enc, r.length = 2 := fun r hr => by
  obtain ⟨x, _, rfl⟩ := List.mem_map.1 hr; rfl

set_option maxRecDepth 10000 in
set_option maxHeartbeats 2000000 in
--F42
theorem without_D (l : List Lnk) (g : FuncId) (caps : List C) (p : Lnk → Bool) (hp : Tells g caps p l) (hl : l.length ≤ 100000) :
    DCalls Try.prog 42 [dv (.sl 2 (l.map Lnk.enc)), dv (.fn g caps)] (dv (.sl 2 ((l.filter fun x => !p x).map Lnk.enc))) := by
  have hcl : (l.map Lnk.enc).length = l.length := by simp
  refine dcalls (N := 9) (rs := [.tmp 4]) (by kernel_rfl) Try.func42 rfl rfl rfl (by simp) ?_
  (repeat (first | (refine dw_seq ?_) | (refine dw_block ?_) | ((first | (refine dw_reg (N := 9) rfl (by kernel_rfl) ?_) | (refine dw_skip ?_) | (refine dw_exit ?_)); simp (decide := true) only [go_sem, reduceIte, reduceCtorEq, n1, n2, n3, n4, n5, n6])))
  refine CallC.eff [] (cloneL_E (l.map Lnk.enc) (encL_sz l) (by simp; omega)) rfl (DLeL.of_eq (by simp (decide := true) only [go_sem, reduceIte, reduceCtorEq, n1, n2, n3, n4, n5, n6])) (fun k r h => by cases h) (by constructor <;> simp) ?_
  rintro r H' ⟨j, rfl, rfl⟩
  simp (decide := true) only [go_sem, reduceIte, reduceCtorEq, n1, n2, n3, n4, n5, n6]
  refine CallC.eff [6] (delL_E l j 6 g caps p hp hl) rfl (DLeL.of_eq (by simp (decide := true) only [go_sem, reduceIte, reduceCtorEq, n1, n2, n3, n4, n5, n6, hcl])) (fun k r h => ?_) (by constructor <;> simp [mid]) ?_
  · by_cases hk : k = 6 + NB
    · subst hk; simp (decide := true) only [go_sem, reduceIte, reduceCtorEq, n1, n2, n3, n4, n5, n6, lMem] at h; subst h; simp (decide := true) only [go_sem, reduceIte, reduceCtorEq, n1, n2, n3, n4, n5, n6, callMemAft, callMem]
    · simp (decide := true) only [go_sem, reduceIte, reduceCtorEq, n1, n2, n3, n4, n5, n6, lMem, hk] at h
  rintro r H' ⟨j', rfl, rfl⟩
  simp (decide := true) only [go_sem, reduceIte, reduceCtorEq, n1, n2, n3, n4, n5, n6]
  (repeat (first | (refine dw_seq ?_) | (refine dw_block ?_) | ((first | (refine dw_reg (N := 9) rfl (by kernel_rfl) ?_) | (refine dw_skip ?_) | (refine dw_exit ?_)); simp (decide := true) only [go_sem, reduceIte, reduceCtorEq, n1, n2, n3, n4, n5, n6])))
  refine dw_frz 6 2 ((l.filter fun x => !p x).map Lnk.enc) (anyRows j' 2) (by decide) (by simp (decide := true) only [go_sem, reduceIte, reduceCtorEq, n1, n2, n3, n4, n5, n6, callMemAft, lMem]; rfl) (encL_sz _) ?_
  have hlen : ((l.filter fun x => !p x).map Lnk.enc).length = (l.filter fun x => !p x).length := by simp
  have htk : ((l.filter fun x => !p x).map Lnk.enc).take (l.filter fun x => !p x).length = (l.filter fun x => !p x).map Lnk.enc := by rw [← hlen, List.take_length]
  have hle : (l.filter fun x => !p x).length ≤ ((l.filter fun x => !p x).map Lnk.enc).length := by omega
  refine dw_ret ?_; simp (decide := true) only [go_sem, reduceIte, reduceCtorEq, n1, n2, n3, n4, n5, n6, hle, htk]

/-- What Unlink takes away of an entry's links. -/
def unP (id a k b m : Int) (x : Lnk) : Bool := (id == a && x.kind == k && x.to == b) || (decide (0 ≤ m) && id == b && x.kind == m && x.to == a)
def clP (id a : Int) (x : Lnk) : Bool := id == a || x.to == a

set_option maxRecDepth 10000 in
set_option maxHeartbeats 2000000 in
--F43
theorem unP_D (e : Ent) (a k b m : Int) (x : Lnk) : DCalls Try.prog 43 [.agg x.row, dv (.pt e.enc), dv (.pt [li a]), dv (.pt [li k]), dv (.pt [li b]), dv (.pt [li m])] (dv (lb (unP e.id a k b m x))) := by
  refine dcalls (N := 48) (rs := [.tmp 7]) (by kernel_rfl) Try.func43 rfl rfl rfl (by simp) ?_
  (repeat' (first | (refine dw_seq ?_) | (refine dw_block ?_) | ((first | (refine dw_reg (N := 48) rfl (by kernel_rfl) ?_) | (refine dw_skip ?_) | (refine dw_exit ?_) | (refine dw_ret ?_)); simp (decide := true) only [go_sem, reduceIte, reduceCtorEq, n1, n2, n3, n4, n5, n6, Lnk.row, Ent.enc]) | (apply dw_cond; (simp (decide := true) only [go_sem, reduceIte, reduceCtorEq, n1, n2, n3, n4, n5, n6, Lnk.row, Ent.enc]; rfl); all_goals (intro hcnd; first | (exact absurd hcnd (by decide)) | skip)) | ((first | refine guardC_f ?_ ?_ | refine guardC_t ?_ ?_) <;> (intro hcnd; simp (decide := true) only [go_sem, reduceIte, reduceCtorEq, n1, n2, n3, n4, n5, n6, hcnd, Lnk.row, Ent.enc]))))
  all_goals (congr 4; simp_all [unP] <;> (intros; omega))

set_option maxRecDepth 10000 in
set_option maxHeartbeats 2000000 in
--F46
theorem clP_D (e : Ent) (a : Int) (x : Lnk) : DCalls Try.prog 46 [.agg x.row, dv (.pt e.enc), dv (.pt [li a])] (dv (lb (clP e.id a x))) := by
  refine dcalls (N := 15) (rs := [.tmp 4]) (by kernel_rfl) Try.func46 rfl rfl rfl (by simp) ?_
  (repeat' (first | (refine dw_seq ?_) | (refine dw_block ?_) | ((first | (refine dw_reg (N := 15) rfl (by kernel_rfl) ?_) | (refine dw_skip ?_) | (refine dw_exit ?_) | (refine dw_ret ?_)); simp (decide := true) only [go_sem, reduceIte, reduceCtorEq, n1, n2, n3, n4, n5, n6, Lnk.row, Ent.enc]) | (apply dw_cond; (simp (decide := true) only [go_sem, reduceIte, reduceCtorEq, n1, n2, n3, n4, n5, n6, Lnk.row, Ent.enc]; rfl); all_goals (intro hcnd; first | (exact absurd hcnd (by decide)) | skip)) | ((first | refine guardC_f ?_ ?_ | refine guardC_t ?_ ?_) <;> (intro hcnd; simp (decide := true) only [go_sem, reduceIte, reduceCtorEq, n1, n2, n3, n4, n5, n6, hcnd, Lnk.row, Ent.enc]))))
  all_goals (congr 4; simp_all [clP])

set_option maxRecDepth 10000 in
set_option maxHeartbeats 2000000 in
--F41
theorem unlink1_D (e : Ent) (a k b m : Int) (hl : e.links.length ≤ 100000) : DCalls Try.prog 41 [.agg e.row, dv (.pt [li a]), dv (.pt [li k]), dv (.pt [li b]), dv (.pt [li m])] (dv (.sl 2 ((e.links.filter fun x => !unP e.id a k b m x).map Lnk.enc))) := by
  have hw := without_D e.links 43 [.pt e.enc, .pt [li a], .pt [li k], .pt [li b], .pt [li m]] (unP e.id a k b m) (fun x _ => unP_D e a k b m x) hl
  simp only [Ent.enc] at hw
  refine dcalls (N := 11) (rs := [.tmp 6]) (by kernel_rfl) Try.func41 rfl rfl rfl (by simp) ?_
  (repeat (first | (refine dw_seq ?_) | (refine dw_block ?_) | ((first | (refine dw_reg (N := 11) rfl (by kernel_rfl) ?_) | (refine dw_skip ?_) | (refine dw_exit ?_)); simp (decide := true) only [go_sem, reduceIte, reduceCtorEq, n1, n2, n3, n4, n5, n6, Ent.row])))
  refine CallC.frz 5 e.enc (by simp [Ent.enc]) (by simp (decide := true) only [go_sem, reduceIte, reduceCtorEq, n1, n2, n3, n4, n5, n6, Ent.enc, List.map_cons, List.map_nil]) ?_
  simp (decide := true) only [go_sem, reduceIte, reduceCtorEq, n1, n2, n3, n4, n5, n6, Ent.enc]
  (first | (refine CallC.mk (hw) (LeL.of_eq rfl) ?_) | (refine CallC.light (hw) (LeL.of_eq rfl) ?_)); simp (decide := true) only [go_sem, reduceIte, reduceCtorEq, n1, n2, n3, n4, n5, n6]
  refine dw_ret ?_; simp (decide := true) only [go_sem, reduceIte, reduceCtorEq, n1, n2, n3, n4, n5, n6]

set_option maxRecDepth 10000 in
set_option maxHeartbeats 2000000 in
--F45
theorem clear1_D (e : Ent) (a : Int) (hl : e.links.length ≤ 100000) : DCalls Try.prog 45 [.agg e.row, dv (.pt [li a])] (dv (.sl 2 ((e.links.filter fun x => !clP e.id a x).map Lnk.enc))) := by
  have hw := without_D e.links 46 [.pt e.enc, .pt [li a]] (clP e.id a) (fun x _ => clP_D e a x) hl
  simp only [Ent.enc] at hw
  refine dcalls (N := 8) (rs := [.tmp 3]) (by kernel_rfl) Try.func45 rfl rfl rfl (by simp) ?_
  (repeat (first | (refine dw_seq ?_) | (refine dw_block ?_) | ((first | (refine dw_reg (N := 8) rfl (by kernel_rfl) ?_) | (refine dw_skip ?_) | (refine dw_exit ?_)); simp (decide := true) only [go_sem, reduceIte, reduceCtorEq, n1, n2, n3, n4, n5, n6, Ent.row])))
  refine CallC.frz 2 e.enc (by simp [Ent.enc]) (by simp (decide := true) only [go_sem, reduceIte, reduceCtorEq, n1, n2, n3, n4, n5, n6, Ent.enc, List.map_cons, List.map_nil]) ?_
  simp (decide := true) only [go_sem, reduceIte, reduceCtorEq, n1, n2, n3, n4, n5, n6, Ent.enc]
  (first | (refine CallC.mk (hw) (LeL.of_eq rfl) ?_) | (refine CallC.light (hw) (LeL.of_eq rfl) ?_)); simp (decide := true) only [go_sem, reduceIte, reduceCtorEq, n1, n2, n3, n4, n5, n6]
  refine dw_ret ?_; simp (decide := true) only [go_sem, reduceIte, reduceCtorEq, n1, n2, n3, n4, n5, n6]
end Go.Proofs.Ytiecekikcegnmaa

/- Link's closure; change: every entry's links by a closure. -/
namespace Go.Proofs.Ytiecekikcegnmaa
open Go.Dl
attribute [local irreducible] DW DCalls ECalls wk IW

/-- What Link makes of an entry's links. -/
def lk1 (a k b m : Int) (e : Ent) : List Lnk := if e.id = a then insL e.links ⟨k, b⟩ else if e.id = b then insL e.links ⟨m, a⟩ else e.links

set_option maxRecDepth 10000 in
set_option maxHeartbeats 2000000 in
--F36
theorem link1_D (e : Ent) (a k b m : Int) (hl : e.links.length ≤ 100000) : DCalls Try.prog 36 [.agg e.row, dv (.pt [li a]), dv (.pt [li k]), dv (.pt [li b]), dv (.pt [li m])] (dv (.sl 2 ((lk1 a k b m e).map Lnk.enc))) := by
  have h1 := insert_D e.links ⟨k, b⟩ hl
  have h2 := insert_D e.links ⟨m, a⟩ hl
  simp only [Lnk.row] at h1 h2
  refine dcalls (N := 29) (rs := [.tmp 6]) (by kernel_rfl) Try.func36 rfl rfl rfl (by simp) ?_
  (repeat (first | (refine dw_seq ?_) | (refine dw_block ?_) | ((first | (refine dw_reg (N := 29) rfl (by kernel_rfl) ?_) | (refine dw_skip ?_) | (refine dw_exit ?_)); simp (decide := true) only [go_sem, reduceIte, reduceCtorEq, n1, n2, n3, n4, n5, n6, Ent.row])))
  by_cases ha : e.id = a
  · have hb : (e.id == a) = true := by simpa using ha
    (repeat' (first | (refine dw_seq ?_) | (refine dw_block ?_) | ((first | (refine dw_reg (N := 29) rfl (by kernel_rfl) ?_) | (refine dw_skip ?_) | (refine dw_exit ?_) | (refine CallC.mk (h1) (LeL.of_eq rfl) ?_) | (refine CallC.light (h1) (LeL.of_eq rfl) ?_) | (refine dw_ret ?_)); simp (decide := true) only [go_sem, reduceIte, reduceCtorEq, n1, n2, n3, n4, n5, n6, Ent.row, hb]) | (apply dw_cond; (simp (decide := true) only [go_sem, reduceIte, reduceCtorEq, n1, n2, n3, n4, n5, n6, Ent.row, hb]; rfl); all_goals (intro hcnd; first | (exact absurd hcnd (by decide)) | skip)) | ((first | refine guardC_f ?_ ?_ | refine guardC_t ?_ ?_) <;> (intro hcnd; simp (decide := true) only [go_sem, reduceIte, reduceCtorEq, n1, n2, n3, n4, n5, n6, hcnd, Ent.row, hb]))))
    simp [lk1, ha]
  · have hb : (e.id == a) = false := by simpa using ha
    by_cases hc : e.id = b
    · have hd : (e.id == b) = true := by simpa using hc
      (repeat' (first | (refine dw_seq ?_) | (refine dw_block ?_) | ((first | (refine dw_reg (N := 29) rfl (by kernel_rfl) ?_) | (refine dw_skip ?_) | (refine dw_exit ?_) | (refine CallC.mk (h2) (LeL.of_eq rfl) ?_) | (refine CallC.light (h2) (LeL.of_eq rfl) ?_) | (refine dw_ret ?_)); simp (decide := true) only [go_sem, reduceIte, reduceCtorEq, n1, n2, n3, n4, n5, n6, Ent.row, hb, hd]) | (apply dw_cond; (simp (decide := true) only [go_sem, reduceIte, reduceCtorEq, n1, n2, n3, n4, n5, n6, Ent.row, hb, hd]; rfl); all_goals (intro hcnd; first | (exact absurd hcnd (by decide)) | skip)) | ((first | refine guardC_f ?_ ?_ | refine guardC_t ?_ ?_) <;> (intro hcnd; simp (decide := true) only [go_sem, reduceIte, reduceCtorEq, n1, n2, n3, n4, n5, n6, hcnd, Ent.row, hb, hd]))))
      rw [lk1, if_neg ha, if_pos hc]
    · have hd : (e.id == b) = false := by simpa using hc
      (repeat' (first | (refine dw_seq ?_) | (refine dw_block ?_) | ((first | (refine dw_reg (N := 29) rfl (by kernel_rfl) ?_) | (refine dw_skip ?_) | (refine dw_exit ?_) | (refine dw_ret ?_)); simp (decide := true) only [go_sem, reduceIte, reduceCtorEq, n1, n2, n3, n4, n5, n6, Ent.row, hb, hd]) | (apply dw_cond; (simp (decide := true) only [go_sem, reduceIte, reduceCtorEq, n1, n2, n3, n4, n5, n6, Ent.row, hb, hd]; rfl); all_goals (intro hcnd; first | (exact absurd hcnd (by decide)) | skip)) | ((first | refine guardC_f ?_ ?_ | refine guardC_t ?_ ?_) <;> (intro hcnd; simp (decide := true) only [go_sem, reduceIte, reduceCtorEq, n1, n2, n3, n4, n5, n6, hcnd, Ent.row, hb, hd]))))
      rw [lk1, if_neg ha, if_neg hc]

/-- Every entry with other links. -/
def chg (f : Ent → List Lnk) (l : List Ent) : List Ent := l.map fun e => { e with links := f e }

theorem encE_sz (l : List Ent) : ∀ r ∈ l.map Ent.enc, r.length = 8 := fun r hr => by
  obtain ⟨x, _, rfl⟩ := List.mem_map.1 hr; rfl

set_option maxRecDepth 10000 in
set_option maxHeartbeats 4000000 in
--F35
theorem change_D (l : List Ent) (g : FuncId) (caps : List C) (f : Ent → List Lnk) (hf : ∀ e ∈ l, DCalls Try.prog g (.agg e.row :: caps.map fun c => D.one (.c c)) (dv (.sl 2 ((f e).map Lnk.enc)))) (hl : l.length ≤ 100000) :
    DCalls Try.prog 35 [dv (.sl 8 (l.map Ent.enc)), dv (.fn g caps)] (dv (.sl 8 ((chg f l).map Ent.enc))) := by
  have hmax : maxLen = 9223372036854775807 := rfl
  have hcl : (l.map Ent.enc).length = l.length := by simp
  have hgl : (chg f l).length = l.length := by simp [chg]
  refine dcalls (N := 26) (rs := [.tmp 4]) (by kernel_rfl) Try.func35 rfl rfl rfl (by simp) ?_
  (repeat (first | (refine dw_seq ?_) | (refine dw_block ?_) | ((first | (refine dw_reg (N := 26) rfl (by kernel_rfl) ?_) | (refine dw_skip ?_) | (refine dw_exit ?_)); simp (decide := true) only [go_sem, reduceIte, reduceCtorEq, n1, n2, n3, n4, n5, n6])))
  refine CallC.eff [] (cloneE_E (l.map Ent.enc) (encE_sz l) (by simp; omega)) rfl (DLeL.of_eq (by simp (decide := true) only [go_sem, reduceIte, reduceCtorEq, n1, n2, n3, n4, n5, n6])) (fun k r h => by cases h) (by constructor <;> simp) ?_
  rintro r H' ⟨j, rfl, rfl⟩
  simp (decide := true) only [go_sem, reduceIte, reduceCtorEq, n1, n2, n3, n4, n5, n6, hcl]
  (repeat (first | (refine dw_seq ?_) | (refine dw_block ?_) | ((first | (refine dw_reg (N := 26) rfl (by kernel_rfl) ?_) | (refine dw_skip ?_) | (refine dw_exit ?_)); simp (decide := true) only [go_sem, reduceIte, reduceCtorEq, n1, n2, n3, n4, n5, n6])))
  refine dw_rng0 l (fun k => kn 26 [(1, dv (.fn g caps)), (5, .one (.ba 8 8 0 l.length (l.length + j))), (10, dv (li l.length)), (11, dv (li k))] (ml [(8, cr (((chg f l).take k ++ l.drop k).map Ent.enc) ++ anyRows j 8)])) (by omega)
    (sub_ml rfl (by simp (decide := true) only [go_sem, reduceIte, reduceCtorEq, n1, n2, n3, n4, n5, n6]) (by simp (decide := true) only [go_sem, reduceIte, reduceCtorEq, n1, n2, n3, n4, n5, n6, callMemAft, List.take_zero, List.nil_append, List.drop_zero])) ?_ ?_
  · intro k e he hk hm htk hlt hw
    have hc := hf e hm
    simp only [Ent.row] at hc
    have hkg : (chg f l)[k]? = some { e with links := f e } := by simp [chg, he]
    have hsp : ((chg f l).take k ++ l.drop k)[k]? = some e := by
      rw [List.getElem?_append_right (by simp only [List.length_take, hgl]; omega)]
      simp [hgl, Nat.min_eq_left (Nat.le_of_lt hk), he]
    have hrow : (cr (((chg f l).take k ++ l.drop k).map Ent.enc) ++ anyRows j 8)[k]? = some e.row := cr_at (x := Ent.enc e) (by simp only [List.getElem?_map, hsp, Option.map_some])
    simp only [Ent.row] at hrow
    (repeat' (first | (refine dw_seq ?_) | (refine dw_block ?_) | ((first | (refine dw_reg (N := 26) rfl (by kernel_rfl) ?_) | (refine dw_skip ?_) | (refine dw_exit ?_) | (refine CallC.mk (hc) (LeL.of_eq rfl) ?_) | (refine CallC.light (hc) (LeL.of_eq rfl) ?_)); simp (decide := true) only [go_sem, reduceIte, reduceCtorEq, n1, n2, n3, n4, n5, n6, hlt, hw, hk, hrow]) | (apply dw_cond; (simp (decide := true) only [go_sem, reduceIte, reduceCtorEq, n1, n2, n3, n4, n5, n6, hlt, hw, hk, hrow]; rfl); all_goals (intro hcnd; first | (exact absurd hcnd (by decide)) | skip)) | ((first | refine guardC_f ?_ ?_ | refine guardC_t ?_ ?_) <;> (intro hcnd; simp (decide := true) only [go_sem, reduceIte, reduceCtorEq, n1, n2, n3, n4, n5, n6, hcnd, hlt, hw, hk, hrow]))))
    have hset : (cr (((chg f l).take k ++ l.drop k).map Ent.enc) ++ anyRows j 8).set k ({ e with links := f e } : Ent).row = cr (((chg f l).take (k + 1) ++ l.drop (k + 1)).map Ent.enc) ++ anyRows j 8 := by
      have h1 : l.drop k = e :: l.drop (k + 1) := by
        obtain ⟨h2, h3⟩ := List.getElem?_eq_some_iff.1 he
        rw [List.drop_eq_getElem_cons h2, h3]
      have h4 : (((chg f l).take k).map Ent.enc).length = k := by simp only [List.length_map, List.length_take, hgl]; omega
      have h5 : (((chg f l).take k).map Ent.enc).map (List.map T.c) ++ (cr ((e :: l.drop (k + 1)).map Ent.enc) ++ anyRows j 8) = cr (((chg f l).take k ++ l.drop k).map Ent.enc) ++ anyRows j 8 := by rw [h1]; simp [cr]
      rw [← h5, List.set_append_right _ _ (by simp only [List.length_map] at h4 ⊢; omega), take_snoc hkg]
      simp only [List.length_map] at h4
      simp [cr, Ent.row, Ent.enc, hgl, Nat.min_eq_left (Nat.le_of_lt hk)]
    simp only [Ent.row] at hset
    exact sub_ml rfl (by simp (decide := true) only [go_sem, reduceIte, reduceCtorEq, n1, n2, n3, n4, n5, n6]) (by simp (decide := true) only [go_sem, reduceIte, reduceCtorEq, n1, n2, n3, n4, n5, n6, hset])
  · intro hlt
    rw [List.drop_length, List.append_nil, show (chg f l).take l.length = chg f l by rw [← hgl, List.take_length]]
    (repeat' (first | (refine dw_seq ?_) | (refine dw_block ?_) | ((first | (refine dw_reg (N := 26) rfl (by kernel_rfl) ?_) | (refine dw_skip ?_) | (refine dw_exit ?_)); simp (decide := true) only [go_sem, reduceIte, reduceCtorEq, n1, n2, n3, n4, n5, n6, hlt]) | (apply dw_cond; (simp (decide := true) only [go_sem, reduceIte, reduceCtorEq, n1, n2, n3, n4, n5, n6, hlt]; rfl); all_goals (intro hcnd; first | (exact absurd hcnd (by decide)) | skip)) | ((first | refine guardC_f ?_ ?_ | refine guardC_t ?_ ?_) <;> (intro hcnd; simp (decide := true) only [go_sem, reduceIte, reduceCtorEq, n1, n2, n3, n4, n5, n6, hcnd, hlt]))))
    refine dw_frz 8 8 ((chg f l).map Ent.enc) (anyRows j 8) (by decide) (by simp (decide := true) only [go_sem, reduceIte, reduceCtorEq, n1, n2, n3, n4, n5, n6]; rfl) (encE_sz _) ?_
    have hlen : ((chg f l).map Ent.enc).length = l.length := by rw [List.length_map, hgl]
    have htk : ((chg f l).map Ent.enc).take l.length = (chg f l).map Ent.enc := by rw [← hlen, List.take_length]
    have hle : l.length ≤ (chg f l).length := by omega
    refine dw_ret ?_; simp (decide := true) only [go_sem, reduceIte, reduceCtorEq, n1, n2, n3, n4, n5, n6, hle, htk]
end Go.Proofs.Ytiecekikcegnmaa

/- Link, Unlink, Clear. -/
namespace Go.Proofs.Ytiecekikcegnmaa
open Go.Dl
attribute [local irreducible] DW DCalls ECalls wk IW

def MidE (l : List Ent) : Prop := l.length ≤ 100000 ∧ ∀ e ∈ l, e.links.length ≤ 100000
theorem MidE.small {l : List Ent} (h : MidE l) : SmallE l := ⟨by have := h.1; omega, fun e he => by have := h.2 e he; omega⟩

def linkK (l : List Ent) (a k b : Int) : List Ent × Int :=
  if (getE l a).2 = false ∨ (getE l b).2 = false then ([], 9) else if inv k < 0 then ([], 14) else if a = b then ([], 17) else if hasL (getE l a).1 ⟨k, b⟩ = true then ([], 8)
  else if 12 ≤ (getE l a).1.links.length ∨ 12 ≤ (getE l b).1.links.length then ([], 11) else if inv k ≠ k ∧ (reachK l b k).any (fun x => a == x) = true then ([], 17)
  else (chg (lk1 a k b (inv k)) l, 0)

def unlinkK (l : List Ent) (a k b : Int) : List Ent × Int :=
  if (getE l a).2 = false ∨ (getE l b).2 = false ∨ hasL (getE l a).1 ⟨k, b⟩ = false then ([], 9)
  else (chg (fun e => e.links.filter fun x => !unP e.id a k b (inv k) x) l, 0)

def clearK (l : List Ent) (a : Int) : List Ent := chg (fun e => e.links.filter fun x => !clP e.id a x) l

theorem reachK_len (l : List Ent) (id kind : Int) : (reachK l id kind).length ≤ l.length := by
  have h1 := reachL_len l id kind
  have h2 := cptF_len (srt (reachL l id kind)) none
  have h3 := srt_len (reachL l id kind)
  simp only [reachK, usort, cpt] at *
  omega

set_option maxRecDepth 10000 in
set_option maxHeartbeats 2000000 in
--F22
theorem clear_D (l : List Ent) (a : Int) (hl : MidE l) : DCalls Try.prog 22 [dv (.sl 8 (l.map Ent.enc)), dv (li a)] (dv (.sl 8 ((clearK l a).map Ent.enc))) := by
  have hc := change_D l 45 [.pt [li a]] _ (fun e he => clear1_D e a (hl.2 e he)) hl.1
  refine dcalls (N := 8) (rs := [.tmp 4]) (by kernel_rfl) Try.func22 rfl rfl rfl (by simp) ?_
  (repeat (first | (refine dw_seq ?_) | (refine dw_block ?_) | ((first | (refine dw_reg (N := 8) rfl (by kernel_rfl) ?_) | (refine dw_skip ?_) | (refine dw_exit ?_)); simp (decide := true) only [go_sem, reduceIte, reduceCtorEq, n1, n2, n3, n4, n5, n6])))
  refine CallC.frz 3 [li a] (by simp) (by simp (decide := true) only [go_sem, reduceIte, reduceCtorEq, n1, n2, n3, n4, n5, n6]) ?_
  simp (decide := true) only [go_sem, reduceIte, reduceCtorEq, n1, n2, n3, n4, n5, n6]
  (first | (refine CallC.mk (hc) (LeL.of_eq rfl) ?_) | (refine CallC.light (hc) (LeL.of_eq rfl) ?_)); simp (decide := true) only [go_sem, reduceIte, reduceCtorEq, n1, n2, n3, n4, n5, n6]
  refine dw_ret ?_; simp (decide := true) only [go_sem, reduceIte, reduceCtorEq, n1, n2, n3, n4, n5, n6]
  rfl

set_option maxRecDepth 10000 in
set_option maxHeartbeats 4000000 in
--F20
theorem unlink_D (l : List Ent) (a k b : Int) (hl : MidE l) : DCalls Try.prog 20 [dv (.sl 8 (l.map Ent.enc)), dv (li a), dv (li k), dv (li b)] (.tup [dv (.sl 8 ((unlinkK l a k b).1.map Ent.enc)), dv (li (unlinkK l a k b).2)]) := by
  have hmax : maxLen = 9223372036854775807 := rfl
  have hA := get_D l a (by have := hl.1; omega)
  have hB := get_D l b (by have := hl.1; omega)
  have hH := has_D (getE l a).1 ⟨k, b⟩ (by have := getE_links hl.small a; omega)
  have hI := inverse_D k
  have hc := change_D l 41 [.pt [li a], .pt [li k], .pt [li b], .pt [li (inv k)]] _ (fun e he => unlink1_D e a k b (inv k) (hl.2 e he)) hl.1
  unfold unlinkK
  generalize getE l a = PA at *
  generalize getE l b = PB at *
  obtain ⟨A, fa⟩ := PA
  obtain ⟨B, fb⟩ := PB
  simp only [Ent.row, Lnk.row] at hA hB hH
  refine dcalls (N := 46) (rs := [.tmp 8, .tmp 9]) (by kernel_rfl) Try.func20 rfl rfl rfl (by simp) ?_
  cases fa
  · (repeat' (first | (refine dw_seq ?_) | (refine dw_block ?_) | ((first | (refine dw_reg (N := 46) rfl (by kernel_rfl) ?_) | (refine dw_skip ?_) | (refine dw_exit ?_) | (refine CallC.mk (hA) (LeL.of_eq rfl) ?_) | (refine CallC.light (hA) (LeL.of_eq rfl) ?_) | (refine CallC.mk (hB) (LeL.of_eq rfl) ?_) | (refine CallC.light (hB) (LeL.of_eq rfl) ?_)); simp (decide := true) only [go_sem, reduceIte, reduceCtorEq, n1, n2, n3, n4, n5, n6]) | (apply dw_cond; (simp (decide := true) only [go_sem, reduceIte, reduceCtorEq, n1, n2, n3, n4, n5, n6]; rfl); all_goals (intro hcnd; first | (exact absurd hcnd (by decide)) | skip)) | ((first | refine guardC_f ?_ ?_ | refine guardC_t ?_ ?_) <;> (intro hcnd; simp (decide := true) only [go_sem, reduceIte, reduceCtorEq, n1, n2, n3, n4, n5, n6, hcnd]))))
    refine dw_weaken (sub_kn (N := 46) (sls := [(8, dv (.sl 8 [])), (9, dv (li 9))]) (bx := noMem) rfl (by simp (decide := true) only [go_sem, reduceIte, reduceCtorEq, n1, n2, n3, n4, n5, n6]) (by simp [noMem])) ?_
    refine dw_ret ?_; simp (decide := true) only [go_sem, reduceIte, reduceCtorEq, n1, n2, n3, n4, n5, n6]
  cases fb
  · (repeat' (first | (refine dw_seq ?_) | (refine dw_block ?_) | ((first | (refine dw_reg (N := 46) rfl (by kernel_rfl) ?_) | (refine dw_skip ?_) | (refine dw_exit ?_) | (refine CallC.mk (hA) (LeL.of_eq rfl) ?_) | (refine CallC.light (hA) (LeL.of_eq rfl) ?_) | (refine CallC.mk (hB) (LeL.of_eq rfl) ?_) | (refine CallC.light (hB) (LeL.of_eq rfl) ?_)); simp (decide := true) only [go_sem, reduceIte, reduceCtorEq, n1, n2, n3, n4, n5, n6]) | (apply dw_cond; (simp (decide := true) only [go_sem, reduceIte, reduceCtorEq, n1, n2, n3, n4, n5, n6]; rfl); all_goals (intro hcnd; first | (exact absurd hcnd (by decide)) | skip)) | ((first | refine guardC_f ?_ ?_ | refine guardC_t ?_ ?_) <;> (intro hcnd; simp (decide := true) only [go_sem, reduceIte, reduceCtorEq, n1, n2, n3, n4, n5, n6, hcnd]))))
    refine dw_weaken (sub_kn (N := 46) (sls := [(8, dv (.sl 8 [])), (9, dv (li 9))]) (bx := noMem) rfl (by simp (decide := true) only [go_sem, reduceIte, reduceCtorEq, n1, n2, n3, n4, n5, n6]) (by simp [noMem])) ?_
    refine dw_ret ?_; simp (decide := true) only [go_sem, reduceIte, reduceCtorEq, n1, n2, n3, n4, n5, n6]
  cases hh : hasL A ⟨k, b⟩
  · rw [hh] at hH
    (repeat' (first | (refine dw_seq ?_) | (refine dw_block ?_) | ((first | (refine dw_reg (N := 46) rfl (by kernel_rfl) ?_) | (refine dw_skip ?_) | (refine dw_exit ?_) | (refine CallC.mk (hA) (LeL.of_eq rfl) ?_) | (refine CallC.light (hA) (LeL.of_eq rfl) ?_) | (refine CallC.mk (hB) (LeL.of_eq rfl) ?_) | (refine CallC.light (hB) (LeL.of_eq rfl) ?_) | (refine CallC.mk (hH) (LeL.of_eq rfl) ?_) | (refine CallC.light (hH) (LeL.of_eq rfl) ?_)); simp (decide := true) only [go_sem, reduceIte, reduceCtorEq, n1, n2, n3, n4, n5, n6]) | (apply dw_cond; (simp (decide := true) only [go_sem, reduceIte, reduceCtorEq, n1, n2, n3, n4, n5, n6]; rfl); all_goals (intro hcnd; first | (exact absurd hcnd (by decide)) | skip)) | ((first | refine guardC_f ?_ ?_ | refine guardC_t ?_ ?_) <;> (intro hcnd; simp (decide := true) only [go_sem, reduceIte, reduceCtorEq, n1, n2, n3, n4, n5, n6, hcnd]))))
    refine dw_weaken (sub_kn (N := 46) (sls := [(8, dv (.sl 8 [])), (9, dv (li 9))]) (bx := noMem) rfl (by simp (decide := true) only [go_sem, reduceIte, reduceCtorEq, n1, n2, n3, n4, n5, n6]) (by simp [noMem])) ?_
    refine dw_ret ?_; simp (decide := true) only [go_sem, reduceIte, reduceCtorEq, n1, n2, n3, n4, n5, n6]
  rw [hh] at hH
  (repeat' (first | (refine dw_seq ?_) | (refine dw_block ?_) | ((first | (refine dw_reg (N := 46) rfl (by kernel_rfl) ?_) | (refine dw_skip ?_) | (refine dw_exit ?_) | (refine CallC.mk (hA) (LeL.of_eq rfl) ?_) | (refine CallC.light (hA) (LeL.of_eq rfl) ?_) | (refine CallC.mk (hB) (LeL.of_eq rfl) ?_) | (refine CallC.light (hB) (LeL.of_eq rfl) ?_) | (refine CallC.mk (hH) (LeL.of_eq rfl) ?_) | (refine CallC.light (hH) (LeL.of_eq rfl) ?_) | (refine CallC.mk (hI) (LeL.of_eq rfl) ?_) | (refine CallC.light (hI) (LeL.of_eq rfl) ?_)); simp (decide := true) only [go_sem, reduceIte, reduceCtorEq, n1, n2, n3, n4, n5, n6]) | (apply dw_cond; (simp (decide := true) only [go_sem, reduceIte, reduceCtorEq, n1, n2, n3, n4, n5, n6]; rfl); all_goals (intro hcnd; first | (exact absurd hcnd (by decide)) | skip)) | ((first | refine guardC_f ?_ ?_ | refine guardC_t ?_ ?_) <;> (intro hcnd; simp (decide := true) only [go_sem, reduceIte, reduceCtorEq, n1, n2, n3, n4, n5, n6, hcnd]))))
  refine CallC.frz 5 [li a] (by simp) (by simp (decide := true) only [go_sem, reduceIte, reduceCtorEq, n1, n2, n3, n4, n5, n6]) ?_
  simp (decide := true) only [go_sem, reduceIte, reduceCtorEq, n1, n2, n3, n4, n5, n6]
  refine CallC.frz 6 [li k] (by simp) (by simp (decide := true) only [go_sem, reduceIte, reduceCtorEq, n1, n2, n3, n4, n5, n6]) ?_
  simp (decide := true) only [go_sem, reduceIte, reduceCtorEq, n1, n2, n3, n4, n5, n6]
  refine CallC.frz 7 [li b] (by simp) (by simp (decide := true) only [go_sem, reduceIte, reduceCtorEq, n1, n2, n3, n4, n5, n6]) ?_
  simp (decide := true) only [go_sem, reduceIte, reduceCtorEq, n1, n2, n3, n4, n5, n6]
  refine CallC.frz 14 [li (inv k)] (by simp) (by simp (decide := true) only [go_sem, reduceIte, reduceCtorEq, n1, n2, n3, n4, n5, n6]) ?_
  simp (decide := true) only [go_sem, reduceIte, reduceCtorEq, n1, n2, n3, n4, n5, n6]
  (first | (refine CallC.mk (hc) (LeL.of_eq rfl) ?_) | (refine CallC.light (hc) (LeL.of_eq rfl) ?_)); simp (decide := true) only [go_sem, reduceIte, reduceCtorEq, n1, n2, n3, n4, n5, n6]
  (repeat' (first | (refine dw_seq ?_) | (refine dw_block ?_) | ((first | (refine dw_reg (N := 46) rfl (by kernel_rfl) ?_) | (refine dw_skip ?_) | (refine dw_exit ?_)); simp (decide := true) only [go_sem, reduceIte, reduceCtorEq, n1, n2, n3, n4, n5, n6]) | (apply dw_cond; (simp (decide := true) only [go_sem, reduceIte, reduceCtorEq, n1, n2, n3, n4, n5, n6]; rfl); all_goals (intro hcnd; first | (exact absurd hcnd (by decide)) | skip)) | ((first | refine guardC_f ?_ ?_ | refine guardC_t ?_ ?_) <;> (intro hcnd; simp (decide := true) only [go_sem, reduceIte, reduceCtorEq, n1, n2, n3, n4, n5, n6, hcnd]))))
  refine dw_ret ?_; simp (decide := true) only [go_sem, reduceIte, reduceCtorEq, n1, n2, n3, n4, n5, n6]

set_option maxRecDepth 10000 in
set_option maxHeartbeats 8000000 in
--F17
theorem link_D (l : List Ent) (a k b : Int) (hl : MidE l) : DCalls Try.prog 17 [dv (.sl 8 (l.map Ent.enc)), dv (li a), dv (li k), dv (li b)] (.tup [dv (.sl 8 ((linkK l a k b).1.map Ent.enc)), dv (li (linkK l a k b).2)]) := by
  have hmax : maxLen = 9223372036854775807 := rfl
  have hA := get_D l a (by have := hl.1; omega)
  have hB := get_D l b (by have := hl.1; omega)
  have hH := has_D (getE l a).1 ⟨k, b⟩ (by have := getE_links hl.small a; omega)
  have hI := inverse_D k
  have hR := reach_D l b k hl.small
  have hN := numHas_D (reachK l b k) a (by have := reachK_len l b k; have := hl.1; omega)
  have hc := change_D l 36 [.pt [li a], .pt [li k], .pt [li b], .pt [li (inv k)]] _ (fun e he => link1_D e a k b (inv k) (hl.2 e he)) hl.1
  unfold linkK
  generalize getE l a = PA at *
  generalize getE l b = PB at *
  obtain ⟨A, fa⟩ := PA
  obtain ⟨B, fb⟩ := PB
  simp only [Ent.row, Lnk.row] at hA hB hH
  refine dcalls (N := 75) (rs := [.tmp 8, .tmp 9]) (by kernel_rfl) Try.func17 rfl rfl rfl (by simp) ?_
  cases fa
  · (repeat' (first | (refine dw_seq ?_) | (refine dw_block ?_) | ((first | (refine dw_reg (N := 75) rfl (by kernel_rfl) ?_) | (apply dw_drw (id := 14) (N := 75) [(0, .light), (1, .light), (2, .light), (3, .light), (4, .light), (5, .light), (6, .light), (7, .light), (8, .light), (9, .step), (10, .light), (11, .light)]; kernel_rfl; rfl; kernel_rfl; (repeat (first | exact Picks.nil | (apply Picks.cons; rfl)))) | (refine dw_skip ?_) | (refine dw_exit ?_) | (refine CallC.mk (hA) (LeL.of_eq rfl) ?_) | (refine CallC.light (hA) (LeL.of_eq rfl) ?_) | (refine CallC.mk (hB) (LeL.of_eq rfl) ?_) | (refine CallC.light (hB) (LeL.of_eq rfl) ?_) | (refine CallC.mk (hI) (LeL.of_eq rfl) ?_) | (refine CallC.light (hI) (LeL.of_eq rfl) ?_)); simp (decide := true) only [go_sem, reduceIte, reduceCtorEq, n1, n2, n3, n4, n5, n6]) | (apply dw_cond; (simp (decide := true) only [go_sem, reduceIte, reduceCtorEq, n1, n2, n3, n4, n5, n6]; rfl); all_goals (intro hcnd; first | (exact absurd hcnd (by decide)) | skip)) | ((first | refine guardC_f ?_ ?_ | refine guardC_t ?_ ?_) <;> (intro hcnd; simp (decide := true) only [go_sem, reduceIte, reduceCtorEq, n1, n2, n3, n4, n5, n6, hcnd]))))
    refine dw_weaken (sub_kn (N := 75) (sls := [(8, dv (.sl 8 [])), (9, dv (li 9))]) (bx := noMem) rfl (by simp (decide := true) only [go_sem, reduceIte, reduceCtorEq, n1, n2, n3, n4, n5, n6]) (by simp [noMem])) ?_
    refine dw_ret ?_; simp (decide := true) only [go_sem, reduceIte, reduceCtorEq, n1, n2, n3, n4, n5, n6]
  cases fb
  · (repeat' (first | (refine dw_seq ?_) | (refine dw_block ?_) | ((first | (refine dw_reg (N := 75) rfl (by kernel_rfl) ?_) | (apply dw_drw (id := 14) (N := 75) [(0, .light), (1, .light), (2, .light), (3, .light), (4, .light), (5, .light), (6, .light), (7, .light), (8, .light), (9, .step), (10, .light), (11, .light)]; kernel_rfl; rfl; kernel_rfl; (repeat (first | exact Picks.nil | (apply Picks.cons; rfl)))) | (refine dw_skip ?_) | (refine dw_exit ?_) | (refine CallC.mk (hA) (LeL.of_eq rfl) ?_) | (refine CallC.light (hA) (LeL.of_eq rfl) ?_) | (refine CallC.mk (hB) (LeL.of_eq rfl) ?_) | (refine CallC.light (hB) (LeL.of_eq rfl) ?_) | (refine CallC.mk (hI) (LeL.of_eq rfl) ?_) | (refine CallC.light (hI) (LeL.of_eq rfl) ?_)); simp (decide := true) only [go_sem, reduceIte, reduceCtorEq, n1, n2, n3, n4, n5, n6]) | (apply dw_cond; (simp (decide := true) only [go_sem, reduceIte, reduceCtorEq, n1, n2, n3, n4, n5, n6]; rfl); all_goals (intro hcnd; first | (exact absurd hcnd (by decide)) | skip)) | ((first | refine guardC_f ?_ ?_ | refine guardC_t ?_ ?_) <;> (intro hcnd; simp (decide := true) only [go_sem, reduceIte, reduceCtorEq, n1, n2, n3, n4, n5, n6, hcnd]))))
    refine dw_weaken (sub_kn (N := 75) (sls := [(8, dv (.sl 8 [])), (9, dv (li 9))]) (bx := noMem) rfl (by simp (decide := true) only [go_sem, reduceIte, reduceCtorEq, n1, n2, n3, n4, n5, n6]) (by simp [noMem])) ?_
    refine dw_ret ?_; simp (decide := true) only [go_sem, reduceIte, reduceCtorEq, n1, n2, n3, n4, n5, n6]
  cases hm : decide (inv k < 0)
  · rw [if_neg (c := inv k < 0) (by simpa using hm)]
    cases he : (a == b)
    · rw [if_neg (c := a = b) (by simpa using he)]
      cases hh : hasL A ⟨k, b⟩
      · rw [hh] at hH
        cases h1 : decide ((12 : Int) ≤ (A.links.length : Int))
        · cases h2 : decide ((12 : Int) ≤ (B.links.length : Int))
          · rw [if_neg (c := 12 ≤ A.links.length ∨ 12 ≤ B.links.length) (by simp at h1 h2; simp; omega)]
            cases h3 : (inv k != k)
            · rw [if_neg (c := inv k ≠ k ∧ _) (by simp at h3; simp [h3])]
              (repeat' (first | (refine dw_seq ?_) | (refine dw_block ?_) | ((first | (refine dw_reg (N := 75) rfl (by kernel_rfl) ?_) | (apply dw_drw (id := 14) (N := 75) [(0, .light), (1, .light), (2, .light), (3, .light), (4, .light), (5, .light), (6, .light), (7, .light), (8, .light), (9, .step), (10, .light), (11, .light)]; kernel_rfl; rfl; kernel_rfl; (repeat (first | exact Picks.nil | (apply Picks.cons; rfl)))) | (refine dw_skip ?_) | (refine dw_exit ?_) | (refine CallC.mk (hA) (LeL.of_eq rfl) ?_) | (refine CallC.light (hA) (LeL.of_eq rfl) ?_) | (refine CallC.mk (hB) (LeL.of_eq rfl) ?_) | (refine CallC.light (hB) (LeL.of_eq rfl) ?_) | (refine CallC.mk (hI) (LeL.of_eq rfl) ?_) | (refine CallC.light (hI) (LeL.of_eq rfl) ?_) | (refine CallC.mk (hH) (LeL.of_eq rfl) ?_) | (refine CallC.light (hH) (LeL.of_eq rfl) ?_)); simp (decide := true) only [go_sem, reduceIte, reduceCtorEq, n1, n2, n3, n4, n5, n6, hm, he, h1, h2, h3]) | (apply dw_cond; (simp (decide := true) only [go_sem, reduceIte, reduceCtorEq, n1, n2, n3, n4, n5, n6, hm, he, h1, h2, h3]; rfl); all_goals (intro hcnd; first | (exact absurd hcnd (by decide)) | skip)) | ((first | refine guardC_f ?_ ?_ | refine guardC_t ?_ ?_) <;> (intro hcnd; simp (decide := true) only [go_sem, reduceIte, reduceCtorEq, n1, n2, n3, n4, n5, n6, hcnd, hm, he, h1, h2, h3]))))
              refine CallC.frz 5 [li a] (by simp) (by simp (decide := true) only [go_sem, reduceIte, reduceCtorEq, n1, n2, n3, n4, n5, n6]) ?_
              simp (decide := true) only [go_sem, reduceIte, reduceCtorEq, n1, n2, n3, n4, n5, n6]
              refine CallC.frz 6 [li k] (by simp) (by simp (decide := true) only [go_sem, reduceIte, reduceCtorEq, n1, n2, n3, n4, n5, n6]) ?_
              simp (decide := true) only [go_sem, reduceIte, reduceCtorEq, n1, n2, n3, n4, n5, n6]
              refine CallC.frz 7 [li b] (by simp) (by simp (decide := true) only [go_sem, reduceIte, reduceCtorEq, n1, n2, n3, n4, n5, n6]) ?_
              simp (decide := true) only [go_sem, reduceIte, reduceCtorEq, n1, n2, n3, n4, n5, n6]
              refine CallC.frz 14 [li (inv k)] (by simp) (by simp (decide := true) only [go_sem, reduceIte, reduceCtorEq, n1, n2, n3, n4, n5, n6]) ?_
              simp (decide := true) only [go_sem, reduceIte, reduceCtorEq, n1, n2, n3, n4, n5, n6]
              (first | (refine CallC.mk (hc) (LeL.of_eq rfl) ?_) | (refine CallC.light (hc) (LeL.of_eq rfl) ?_)); simp (decide := true) only [go_sem, reduceIte, reduceCtorEq, n1, n2, n3, n4, n5, n6]
              (repeat' (first | (refine dw_seq ?_) | (refine dw_block ?_) | ((first | (refine dw_reg (N := 75) rfl (by kernel_rfl) ?_) | (apply dw_drw (id := 14) (N := 75) [(0, .light), (1, .light), (2, .light), (3, .light), (4, .light), (5, .light), (6, .light), (7, .light), (8, .light), (9, .step), (10, .light), (11, .light)]; kernel_rfl; rfl; kernel_rfl; (repeat (first | exact Picks.nil | (apply Picks.cons; rfl)))) | (refine dw_skip ?_) | (refine dw_exit ?_)); simp (decide := true) only [go_sem, reduceIte, reduceCtorEq, n1, n2, n3, n4, n5, n6]) | (apply dw_cond; (simp (decide := true) only [go_sem, reduceIte, reduceCtorEq, n1, n2, n3, n4, n5, n6]; rfl); all_goals (intro hcnd; first | (exact absurd hcnd (by decide)) | skip)) | ((first | refine guardC_f ?_ ?_ | refine guardC_t ?_ ?_) <;> (intro hcnd; simp (decide := true) only [go_sem, reduceIte, reduceCtorEq, n1, n2, n3, n4, n5, n6, hcnd]))))
              refine dw_ret ?_; simp (decide := true) only [go_sem, reduceIte, reduceCtorEq, n1, n2, n3, n4, n5, n6]
            · cases h4 : (reachK l b k).any fun x => a == x
              · rw [h4] at hN
                rw [if_neg (c := inv k ≠ k ∧ _) (by simp)]
                (repeat' (first | (refine dw_seq ?_) | (refine dw_block ?_) | ((first | (refine dw_reg (N := 75) rfl (by kernel_rfl) ?_) | (apply dw_drw (id := 14) (N := 75) [(0, .light), (1, .light), (2, .light), (3, .light), (4, .light), (5, .light), (6, .light), (7, .light), (8, .light), (9, .step), (10, .light), (11, .light)]; kernel_rfl; rfl; kernel_rfl; (repeat (first | exact Picks.nil | (apply Picks.cons; rfl)))) | (refine dw_skip ?_) | (refine dw_exit ?_) | (refine CallC.mk (hA) (LeL.of_eq rfl) ?_) | (refine CallC.light (hA) (LeL.of_eq rfl) ?_) | (refine CallC.mk (hB) (LeL.of_eq rfl) ?_) | (refine CallC.light (hB) (LeL.of_eq rfl) ?_) | (refine CallC.mk (hI) (LeL.of_eq rfl) ?_) | (refine CallC.light (hI) (LeL.of_eq rfl) ?_) | (refine CallC.mk (hH) (LeL.of_eq rfl) ?_) | (refine CallC.light (hH) (LeL.of_eq rfl) ?_) | (refine CallC.mk (hR) (LeL.of_eq rfl) ?_) | (refine CallC.light (hR) (LeL.of_eq rfl) ?_) | (refine CallC.mk (hN) (LeL.of_eq rfl) ?_) | (refine CallC.light (hN) (LeL.of_eq rfl) ?_)); simp (decide := true) only [go_sem, reduceIte, reduceCtorEq, n1, n2, n3, n4, n5, n6, hm, he, h1, h2, h3]) | (apply dw_cond; (simp (decide := true) only [go_sem, reduceIte, reduceCtorEq, n1, n2, n3, n4, n5, n6, hm, he, h1, h2, h3]; rfl); all_goals (intro hcnd; first | (exact absurd hcnd (by decide)) | skip)) | ((first | refine guardC_f ?_ ?_ | refine guardC_t ?_ ?_) <;> (intro hcnd; simp (decide := true) only [go_sem, reduceIte, reduceCtorEq, n1, n2, n3, n4, n5, n6, hcnd, hm, he, h1, h2, h3]))))
                refine CallC.frz 5 [li a] (by simp) (by simp (decide := true) only [go_sem, reduceIte, reduceCtorEq, n1, n2, n3, n4, n5, n6]) ?_
                simp (decide := true) only [go_sem, reduceIte, reduceCtorEq, n1, n2, n3, n4, n5, n6]
                refine CallC.frz 6 [li k] (by simp) (by simp (decide := true) only [go_sem, reduceIte, reduceCtorEq, n1, n2, n3, n4, n5, n6]) ?_
                simp (decide := true) only [go_sem, reduceIte, reduceCtorEq, n1, n2, n3, n4, n5, n6]
                refine CallC.frz 7 [li b] (by simp) (by simp (decide := true) only [go_sem, reduceIte, reduceCtorEq, n1, n2, n3, n4, n5, n6]) ?_
                simp (decide := true) only [go_sem, reduceIte, reduceCtorEq, n1, n2, n3, n4, n5, n6]
                refine CallC.frz 14 [li (inv k)] (by simp) (by simp (decide := true) only [go_sem, reduceIte, reduceCtorEq, n1, n2, n3, n4, n5, n6]) ?_
                simp (decide := true) only [go_sem, reduceIte, reduceCtorEq, n1, n2, n3, n4, n5, n6]
                (first | (refine CallC.mk (hc) (LeL.of_eq rfl) ?_) | (refine CallC.light (hc) (LeL.of_eq rfl) ?_)); simp (decide := true) only [go_sem, reduceIte, reduceCtorEq, n1, n2, n3, n4, n5, n6]
                (repeat' (first | (refine dw_seq ?_) | (refine dw_block ?_) | ((first | (refine dw_reg (N := 75) rfl (by kernel_rfl) ?_) | (apply dw_drw (id := 14) (N := 75) [(0, .light), (1, .light), (2, .light), (3, .light), (4, .light), (5, .light), (6, .light), (7, .light), (8, .light), (9, .step), (10, .light), (11, .light)]; kernel_rfl; rfl; kernel_rfl; (repeat (first | exact Picks.nil | (apply Picks.cons; rfl)))) | (refine dw_skip ?_) | (refine dw_exit ?_)); simp (decide := true) only [go_sem, reduceIte, reduceCtorEq, n1, n2, n3, n4, n5, n6]) | (apply dw_cond; (simp (decide := true) only [go_sem, reduceIte, reduceCtorEq, n1, n2, n3, n4, n5, n6]; rfl); all_goals (intro hcnd; first | (exact absurd hcnd (by decide)) | skip)) | ((first | refine guardC_f ?_ ?_ | refine guardC_t ?_ ?_) <;> (intro hcnd; simp (decide := true) only [go_sem, reduceIte, reduceCtorEq, n1, n2, n3, n4, n5, n6, hcnd]))))
                refine dw_ret ?_; simp (decide := true) only [go_sem, reduceIte, reduceCtorEq, n1, n2, n3, n4, n5, n6]
              · rw [h4] at hN
                rw [if_pos (c := inv k ≠ k ∧ _) ⟨by simpa using h3, rfl⟩]
                (repeat' (first | (refine dw_seq ?_) | (refine dw_block ?_) | ((first | (refine dw_reg (N := 75) rfl (by kernel_rfl) ?_) | (apply dw_drw (id := 14) (N := 75) [(0, .light), (1, .light), (2, .light), (3, .light), (4, .light), (5, .light), (6, .light), (7, .light), (8, .light), (9, .step), (10, .light), (11, .light)]; kernel_rfl; rfl; kernel_rfl; (repeat (first | exact Picks.nil | (apply Picks.cons; rfl)))) | (refine dw_skip ?_) | (refine dw_exit ?_) | (refine CallC.mk (hA) (LeL.of_eq rfl) ?_) | (refine CallC.light (hA) (LeL.of_eq rfl) ?_) | (refine CallC.mk (hB) (LeL.of_eq rfl) ?_) | (refine CallC.light (hB) (LeL.of_eq rfl) ?_) | (refine CallC.mk (hI) (LeL.of_eq rfl) ?_) | (refine CallC.light (hI) (LeL.of_eq rfl) ?_) | (refine CallC.mk (hH) (LeL.of_eq rfl) ?_) | (refine CallC.light (hH) (LeL.of_eq rfl) ?_) | (refine CallC.mk (hR) (LeL.of_eq rfl) ?_) | (refine CallC.light (hR) (LeL.of_eq rfl) ?_) | (refine CallC.mk (hN) (LeL.of_eq rfl) ?_) | (refine CallC.light (hN) (LeL.of_eq rfl) ?_)); simp (decide := true) only [go_sem, reduceIte, reduceCtorEq, n1, n2, n3, n4, n5, n6, hm, he, h1, h2, h3]) | (apply dw_cond; (simp (decide := true) only [go_sem, reduceIte, reduceCtorEq, n1, n2, n3, n4, n5, n6, hm, he, h1, h2, h3]; rfl); all_goals (intro hcnd; first | (exact absurd hcnd (by decide)) | skip)) | ((first | refine guardC_f ?_ ?_ | refine guardC_t ?_ ?_) <;> (intro hcnd; simp (decide := true) only [go_sem, reduceIte, reduceCtorEq, n1, n2, n3, n4, n5, n6, hcnd, hm, he, h1, h2, h3]))))
                refine dw_weaken (sub_kn (N := 75) (sls := [(8, dv (.sl 8 [])), (9, dv (li 17))]) (bx := noMem) rfl (by simp (decide := true) only [go_sem, reduceIte, reduceCtorEq, n1, n2, n3, n4, n5, n6]) (by simp [noMem])) ?_
                refine dw_ret ?_; simp (decide := true) only [go_sem, reduceIte, reduceCtorEq, n1, n2, n3, n4, n5, n6]
          · rw [if_pos (c := 12 ≤ A.links.length ∨ 12 ≤ B.links.length) (by simp at h2; omega)]
            (repeat' (first | (refine dw_seq ?_) | (refine dw_block ?_) | ((first | (refine dw_reg (N := 75) rfl (by kernel_rfl) ?_) | (apply dw_drw (id := 14) (N := 75) [(0, .light), (1, .light), (2, .light), (3, .light), (4, .light), (5, .light), (6, .light), (7, .light), (8, .light), (9, .step), (10, .light), (11, .light)]; kernel_rfl; rfl; kernel_rfl; (repeat (first | exact Picks.nil | (apply Picks.cons; rfl)))) | (refine dw_skip ?_) | (refine dw_exit ?_) | (refine CallC.mk (hA) (LeL.of_eq rfl) ?_) | (refine CallC.light (hA) (LeL.of_eq rfl) ?_) | (refine CallC.mk (hB) (LeL.of_eq rfl) ?_) | (refine CallC.light (hB) (LeL.of_eq rfl) ?_) | (refine CallC.mk (hI) (LeL.of_eq rfl) ?_) | (refine CallC.light (hI) (LeL.of_eq rfl) ?_) | (refine CallC.mk (hH) (LeL.of_eq rfl) ?_) | (refine CallC.light (hH) (LeL.of_eq rfl) ?_)); simp (decide := true) only [go_sem, reduceIte, reduceCtorEq, n1, n2, n3, n4, n5, n6, hm, he, h1, h2]) | (apply dw_cond; (simp (decide := true) only [go_sem, reduceIte, reduceCtorEq, n1, n2, n3, n4, n5, n6, hm, he, h1, h2]; rfl); all_goals (intro hcnd; first | (exact absurd hcnd (by decide)) | skip)) | ((first | refine guardC_f ?_ ?_ | refine guardC_t ?_ ?_) <;> (intro hcnd; simp (decide := true) only [go_sem, reduceIte, reduceCtorEq, n1, n2, n3, n4, n5, n6, hcnd, hm, he, h1, h2]))))
            refine dw_weaken (sub_kn (N := 75) (sls := [(8, dv (.sl 8 [])), (9, dv (li 11))]) (bx := noMem) rfl (by simp (decide := true) only [go_sem, reduceIte, reduceCtorEq, n1, n2, n3, n4, n5, n6]) (by simp [noMem])) ?_
            refine dw_ret ?_; simp (decide := true) only [go_sem, reduceIte, reduceCtorEq, n1, n2, n3, n4, n5, n6]
        · rw [if_pos (c := 12 ≤ A.links.length ∨ 12 ≤ B.links.length) (by simp at h1; omega)]
          (repeat' (first | (refine dw_seq ?_) | (refine dw_block ?_) | ((first | (refine dw_reg (N := 75) rfl (by kernel_rfl) ?_) | (apply dw_drw (id := 14) (N := 75) [(0, .light), (1, .light), (2, .light), (3, .light), (4, .light), (5, .light), (6, .light), (7, .light), (8, .light), (9, .step), (10, .light), (11, .light)]; kernel_rfl; rfl; kernel_rfl; (repeat (first | exact Picks.nil | (apply Picks.cons; rfl)))) | (refine dw_skip ?_) | (refine dw_exit ?_) | (refine CallC.mk (hA) (LeL.of_eq rfl) ?_) | (refine CallC.light (hA) (LeL.of_eq rfl) ?_) | (refine CallC.mk (hB) (LeL.of_eq rfl) ?_) | (refine CallC.light (hB) (LeL.of_eq rfl) ?_) | (refine CallC.mk (hI) (LeL.of_eq rfl) ?_) | (refine CallC.light (hI) (LeL.of_eq rfl) ?_) | (refine CallC.mk (hH) (LeL.of_eq rfl) ?_) | (refine CallC.light (hH) (LeL.of_eq rfl) ?_)); simp (decide := true) only [go_sem, reduceIte, reduceCtorEq, n1, n2, n3, n4, n5, n6, hm, he, h1]) | (apply dw_cond; (simp (decide := true) only [go_sem, reduceIte, reduceCtorEq, n1, n2, n3, n4, n5, n6, hm, he, h1]; rfl); all_goals (intro hcnd; first | (exact absurd hcnd (by decide)) | skip)) | ((first | refine guardC_f ?_ ?_ | refine guardC_t ?_ ?_) <;> (intro hcnd; simp (decide := true) only [go_sem, reduceIte, reduceCtorEq, n1, n2, n3, n4, n5, n6, hcnd, hm, he, h1]))))
          refine dw_weaken (sub_kn (N := 75) (sls := [(8, dv (.sl 8 [])), (9, dv (li 11))]) (bx := noMem) rfl (by simp (decide := true) only [go_sem, reduceIte, reduceCtorEq, n1, n2, n3, n4, n5, n6]) (by simp [noMem])) ?_
          refine dw_ret ?_; simp (decide := true) only [go_sem, reduceIte, reduceCtorEq, n1, n2, n3, n4, n5, n6]
      · rw [hh] at hH
        (repeat' (first | (refine dw_seq ?_) | (refine dw_block ?_) | ((first | (refine dw_reg (N := 75) rfl (by kernel_rfl) ?_) | (apply dw_drw (id := 14) (N := 75) [(0, .light), (1, .light), (2, .light), (3, .light), (4, .light), (5, .light), (6, .light), (7, .light), (8, .light), (9, .step), (10, .light), (11, .light)]; kernel_rfl; rfl; kernel_rfl; (repeat (first | exact Picks.nil | (apply Picks.cons; rfl)))) | (refine dw_skip ?_) | (refine dw_exit ?_) | (refine CallC.mk (hA) (LeL.of_eq rfl) ?_) | (refine CallC.light (hA) (LeL.of_eq rfl) ?_) | (refine CallC.mk (hB) (LeL.of_eq rfl) ?_) | (refine CallC.light (hB) (LeL.of_eq rfl) ?_) | (refine CallC.mk (hI) (LeL.of_eq rfl) ?_) | (refine CallC.light (hI) (LeL.of_eq rfl) ?_) | (refine CallC.mk (hH) (LeL.of_eq rfl) ?_) | (refine CallC.light (hH) (LeL.of_eq rfl) ?_)); simp (decide := true) only [go_sem, reduceIte, reduceCtorEq, n1, n2, n3, n4, n5, n6, hm, he]) | (apply dw_cond; (simp (decide := true) only [go_sem, reduceIte, reduceCtorEq, n1, n2, n3, n4, n5, n6, hm, he]; rfl); all_goals (intro hcnd; first | (exact absurd hcnd (by decide)) | skip)) | ((first | refine guardC_f ?_ ?_ | refine guardC_t ?_ ?_) <;> (intro hcnd; simp (decide := true) only [go_sem, reduceIte, reduceCtorEq, n1, n2, n3, n4, n5, n6, hcnd, hm, he]))))
        refine dw_weaken (sub_kn (N := 75) (sls := [(8, dv (.sl 8 [])), (9, dv (li 8))]) (bx := noMem) rfl (by simp (decide := true) only [go_sem, reduceIte, reduceCtorEq, n1, n2, n3, n4, n5, n6]) (by simp [noMem])) ?_
        refine dw_ret ?_; simp (decide := true) only [go_sem, reduceIte, reduceCtorEq, n1, n2, n3, n4, n5, n6]
    · rw [if_pos (c := a = b) (by simpa using he)]
      (repeat' (first | (refine dw_seq ?_) | (refine dw_block ?_) | ((first | (refine dw_reg (N := 75) rfl (by kernel_rfl) ?_) | (apply dw_drw (id := 14) (N := 75) [(0, .light), (1, .light), (2, .light), (3, .light), (4, .light), (5, .light), (6, .light), (7, .light), (8, .light), (9, .step), (10, .light), (11, .light)]; kernel_rfl; rfl; kernel_rfl; (repeat (first | exact Picks.nil | (apply Picks.cons; rfl)))) | (refine dw_skip ?_) | (refine dw_exit ?_) | (refine CallC.mk (hA) (LeL.of_eq rfl) ?_) | (refine CallC.light (hA) (LeL.of_eq rfl) ?_) | (refine CallC.mk (hB) (LeL.of_eq rfl) ?_) | (refine CallC.light (hB) (LeL.of_eq rfl) ?_) | (refine CallC.mk (hI) (LeL.of_eq rfl) ?_) | (refine CallC.light (hI) (LeL.of_eq rfl) ?_)); simp (decide := true) only [go_sem, reduceIte, reduceCtorEq, n1, n2, n3, n4, n5, n6, hm, he]) | (apply dw_cond; (simp (decide := true) only [go_sem, reduceIte, reduceCtorEq, n1, n2, n3, n4, n5, n6, hm, he]; rfl); all_goals (intro hcnd; first | (exact absurd hcnd (by decide)) | skip)) | ((first | refine guardC_f ?_ ?_ | refine guardC_t ?_ ?_) <;> (intro hcnd; simp (decide := true) only [go_sem, reduceIte, reduceCtorEq, n1, n2, n3, n4, n5, n6, hcnd, hm, he]))))
      refine dw_weaken (sub_kn (N := 75) (sls := [(8, dv (.sl 8 [])), (9, dv (li 17))]) (bx := noMem) rfl (by simp (decide := true) only [go_sem, reduceIte, reduceCtorEq, n1, n2, n3, n4, n5, n6]) (by simp [noMem])) ?_
      refine dw_ret ?_; simp (decide := true) only [go_sem, reduceIte, reduceCtorEq, n1, n2, n3, n4, n5, n6]
  · rw [if_pos (c := inv k < 0) (by simpa using hm)]
    (repeat' (first | (refine dw_seq ?_) | (refine dw_block ?_) | ((first | (refine dw_reg (N := 75) rfl (by kernel_rfl) ?_) | (apply dw_drw (id := 14) (N := 75) [(0, .light), (1, .light), (2, .light), (3, .light), (4, .light), (5, .light), (6, .light), (7, .light), (8, .light), (9, .step), (10, .light), (11, .light)]; kernel_rfl; rfl; kernel_rfl; (repeat (first | exact Picks.nil | (apply Picks.cons; rfl)))) | (refine dw_skip ?_) | (refine dw_exit ?_) | (refine CallC.mk (hA) (LeL.of_eq rfl) ?_) | (refine CallC.light (hA) (LeL.of_eq rfl) ?_) | (refine CallC.mk (hB) (LeL.of_eq rfl) ?_) | (refine CallC.light (hB) (LeL.of_eq rfl) ?_) | (refine CallC.mk (hI) (LeL.of_eq rfl) ?_) | (refine CallC.light (hI) (LeL.of_eq rfl) ?_)); simp (decide := true) only [go_sem, reduceIte, reduceCtorEq, n1, n2, n3, n4, n5, n6, hm]) | (apply dw_cond; (simp (decide := true) only [go_sem, reduceIte, reduceCtorEq, n1, n2, n3, n4, n5, n6, hm]; rfl); all_goals (intro hcnd; first | (exact absurd hcnd (by decide)) | skip)) | ((first | refine guardC_f ?_ ?_ | refine guardC_t ?_ ?_) <;> (intro hcnd; simp (decide := true) only [go_sem, reduceIte, reduceCtorEq, n1, n2, n3, n4, n5, n6, hcnd, hm]))))
    refine dw_weaken (sub_kn (N := 75) (sls := [(8, dv (.sl 8 [])), (9, dv (li 14))]) (bx := noMem) rfl (by simp (decide := true) only [go_sem, reduceIte, reduceCtorEq, n1, n2, n3, n4, n5, n6]) (by simp [noMem])) ?_
    refine dw_ret ?_; simp (decide := true) only [go_sem, reduceIte, reduceCtorEq, n1, n2, n3, n4, n5, n6]
end Go.Proofs.Ytiecekikcegnmaa

/- The reference's: entries copied; Link, Unlink, Clear. -/
namespace Go.Proofs.Ytiecekikcegnmaa
open Go.Dl
attribute [local irreducible] DW DCalls ECalls wk IW

--F38
set_option maxRecDepth 10000 in
set_option maxHeartbeats 2000000 in
theorem copied_E (xs : List (List Dl.C)) (hz : ∀ r ∈ xs, r.length = 8) (hl : xs.length ≤ 1000000) :
    ECalls Try.prog 38 [dv (.sl 8 xs)] noMem (fun r H' => ∃ j, r = .one (.ba 0 8 0 xs.length (xs.length + j)) ∧ H' = ml [(0, cr xs ++ anyRows j 8)]) := by
  refine ecalls (N := 7) (rs := [.tmp 2]) (by kernel_rfl) Try.func38 rfl rfl rfl (by simp) ?_
  refine dw_seq ?_
  refine dw_reg (N := 7) rfl (by kernel_rfl) ?_; simp (decide := true) only [go_sem, reduceIte, reduceCtorEq, n1, n2, n3, n4, n5, n6]
  refine dw_seq ?_
  refine dw_reg (N := 7) rfl (by kernel_rfl) ?_; simp (decide := true) only [go_sem, reduceIte, reduceCtorEq, n1, n2, n3, n4, n5, n6]
  refine dw_weaken (sub_zero 3 1000 8 (.inl (by simp (decide := true) only [go_sem, reduceIte, reduceCtorEq, n1, n2, n3, n4, n5, n6]))) ?_
  (repeat (first | (refine dw_seq ?_) | (refine dw_block ?_) | ((first | (refine dw_reg (N := 7) rfl (by kernel_rfl) ?_) | (refine dw_skip ?_) | (refine dw_exit ?_)); simp (decide := true) only [go_sem, reduceIte, reduceCtorEq, n1, n2, n3, n4, n5, n6])))
  refine StepC.mk (Step.appendList (n := 1000) (sz := 8) (by_ := 144) (rows := []) (j := 0) (ys := cr xs) rfl rfl (by simp (decide := true) only [go_sem, reduceIte, reduceCtorEq, n1, n2, n3, n4, n5, n6]) (by simp (decide := true) only [go_sem, reduceIte, reduceCtorEq, n1, n2, n3, n4, n5, n6]) (by simp (decide := true) only [go_sem, reduceIte, reduceCtorEq, n1, n2, n3, n4, n5, n6]) (by simp [RowsSz]) (srcSl (by simp (decide := true) only [go_sem, reduceIte, reduceCtorEq, n1, n2, n3, n4, n5, n6])) (by simp only [cr_len, List.length_nil]; omega) ?_)
  intro j'
  simp (decide := true) only [go_sem, reduceIte, reduceCtorEq, n1, n2, n3, n4, n5, n6]
  (repeat (first | (refine dw_seq ?_) | (refine dw_block ?_) | ((first | (refine dw_reg (N := 7) rfl (by kernel_rfl) ?_) | (refine dw_skip ?_) | (refine dw_exit ?_)); simp (decide := true) only [go_sem, reduceIte, reduceCtorEq, n1, n2, n3, n4, n5, n6])))
  refine dw_weaken (DS.Sub.trans (sub_mv 6 0 (by omega)) (sub_ml (N := 7) (sls := [(2, .one (.ba 0 8 0 xs.length (xs.length + j')))]) (bxs := [(0, cr xs ++ anyRows j' 8)]) rfl (by simp (decide := true) only [go_sem, reduceIte, reduceCtorEq, n1, n2, n3, n4, n5, n6, cr_len, Nat.zero_add]) (by simp (decide := true) only [go_sem, reduceIte, reduceCtorEq, n1, n2, n3, n4, n5, n6]))) ?_
  refine dw_ret ?_; simp (decide := true) only [go_sem, reduceIte, reduceCtorEq, n1, n2, n3, n4, n5, n6]
  exact ⟨j', rfl, rfl⟩
end Go.Proofs.Ytiecekikcegnmaa
