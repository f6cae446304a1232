/- The logic of data over the kit's walk, and contracts of the functions that the law reaches, each said by plain data; part 6 of 6. -/
import Derived.Test.YtffcabenoakmgaaRows
import Derived.WalkKit
import Derived.ProofKit
import Derived.OpenShut
import Derived.ShutString
import Derived.ChangeOld
import Derived.Below
import Derived.Test.Ytffcabenoakmgaag4
set_option linter.all false
set_option linter.unusedVariables false
set_option linter.unusedSimpArgs false
/- Contracts of the laws of reversals (I). -/
namespace Go.Proofs.Ytffcabenoakmgaa
open Go.Dl
attribute [local irreducible] DW DCalls ECalls wk

theorem few28_len {l : List Entry} (h : few28 l = true) : l.length ≤ 40 ∧ ∀ e ∈ l, e.senses.length ≤ 10 := by
  simp only [few28, fewB, Bool.and_eq_true, decide_eq_true_eq, List.all_eq_true] at h
  refine ⟨h.1, fun e he => ?_⟩
  have := h.2.2 e he
  simp only [fewE, Bool.and_eq_true, decide_eq_true_eq] at this
  exact this.1.1.1.2

theorem short_len {l : List Row} (h : shortB l = true) : l.length ≤ 60 ∧ ∀ r ∈ l, r.senses.length ≤ 60 := by
  simp only [shortB, Bool.and_eq_true, decide_eq_true_eq, List.all_eq_true] at h
  refine ⟨h.1, fun r hr => ?_⟩
  have := h.2 r hr
  simp only [shortR, Bool.and_eq_true, decide_eq_true_eq] at this
  exact this.2

--F3
set_option maxRecDepth 10000 in
theorem lawBuilds (l : List Entry) (hl : l.length ≤ maxLen) : DCalls Try.prog 3 [dv (.sl 8 (l.map Entry.enc))] (dv (lb true)) := by
  refine dcalls (N := 20) (rs := [.tmp 2]) (by kernel_rfl) Try.func3 rfl rfl rfl (by simp) ?_
  cases hf : few28 l with
  | false =>
    (repeat' (first | (refine dw_seq ?_) | (refine dw_block ?_) | ((first | (refine dw_reg (N := 20) rfl (by kernel_rfl) ?_) | (refine dw_skip ?_) | (refine dw_exit ?_) | (refine CallC.mk (few28_D l hl) (LeL.of_eq rfl) ?_) | (refine CallC.light (few28_D l hl) (LeL.of_eq rfl) ?_) | (refine CallC.mk (awake_D) (LeL.of_eq rfl) ?_) | (refine CallC.light (awake_D) (LeL.of_eq rfl) ?_) | (refine dw_ret ?_)); simp (decide := true) only [go_sem, reduceIte, reduceCtorEq, Nat.reduceEqDiff, Nat.reduceAdd, Nat.reduceMul, Nat.reduceSub, Nat.reduceLeDiff, Nat.reduceBEq, hf]) | (apply dw_cond; (simp (decide := true) only [go_sem, reduceIte, reduceCtorEq, Nat.reduceEqDiff, Nat.reduceAdd, Nat.reduceMul, Nat.reduceSub, Nat.reduceLeDiff, Nat.reduceBEq, hf]; rfl); all_goals (intro hcnd; first | (exact absurd hcnd (by decide)) | skip)) | ((first | refine guardC_f ?_ ?_ | refine guardC_t ?_ ?_) <;> (intro hcnd; simp (decide := true) only [go_sem, reduceIte, reduceCtorEq, Nat.reduceEqDiff, Nat.reduceAdd, Nat.reduceMul, Nat.reduceSub, Nat.reduceLeDiff, Nat.reduceBEq, hcnd, hf]))))
  | true =>
    obtain ⟨h1, h2⟩ := few28_len hf
    have hs1 : ∀ r ∈ buildR l, r.senses.length ≤ 1000000 := fun r hr => by have := (build_okc (c := 10) h2 l.length).2 r hr; omega
    have hs2 : (buildR l).length ≤ 1000000 := by have := (build_okc (c := 10) h2 l.length).1; unfold buildR; omega
    have hs := same_D (buildR l) (buildR l) hs2 hs2 (fun r hr => by have := hs1 r hr; simp [maxLen]; omega) (fun r hr => by have := hs1 r hr; simp [maxLen]; omega)
    simp only [decide_true] at hs
    cases hF : fitB l with
    | false => (repeat' (first | (refine dw_seq ?_) | (refine dw_block ?_) | ((first | (refine dw_reg (N := 20) rfl (by kernel_rfl) ?_) | (refine dw_skip ?_) | (refine dw_exit ?_) | (refine CallC.mk (few28_D l hl) (LeL.of_eq rfl) ?_) | (refine CallC.light (few28_D l hl) (LeL.of_eq rfl) ?_) | (refine CallC.mk (fit_D l (by omega) (fun e he => by have := h2 e he; omega)) (LeL.of_eq rfl) ?_) | (refine CallC.light (fit_D l (by omega) (fun e he => by have := h2 e he; omega)) (LeL.of_eq rfl) ?_) | (refine CallC.mk (awake_D) (LeL.of_eq rfl) ?_) | (refine CallC.light (awake_D) (LeL.of_eq rfl) ?_) | (refine dw_ret ?_)); simp (decide := true) only [go_sem, reduceIte, reduceCtorEq, Nat.reduceEqDiff, Nat.reduceAdd, Nat.reduceMul, Nat.reduceSub, Nat.reduceLeDiff, Nat.reduceBEq, hf, hF]) | (apply dw_cond; (simp (decide := true) only [go_sem, reduceIte, reduceCtorEq, Nat.reduceEqDiff, Nat.reduceAdd, Nat.reduceMul, Nat.reduceSub, Nat.reduceLeDiff, Nat.reduceBEq, hf, hF]; rfl); all_goals (intro hcnd; first | (exact absurd hcnd (by decide)) | skip)) | ((first | refine guardC_f ?_ ?_ | refine guardC_t ?_ ?_) <;> (intro hcnd; simp (decide := true) only [go_sem, reduceIte, reduceCtorEq, Nat.reduceEqDiff, Nat.reduceAdd, Nat.reduceMul, Nat.reduceSub, Nat.reduceLeDiff, Nat.reduceBEq, hcnd, hf, hF]))))
    | true => (repeat' (first | (refine dw_seq ?_) | (refine dw_block ?_) | ((first | (refine dw_reg (N := 20) rfl (by kernel_rfl) ?_) | (refine dw_skip ?_) | (refine dw_exit ?_) | (refine CallC.mk (few28_D l hl) (LeL.of_eq rfl) ?_) | (refine CallC.light (few28_D l hl) (LeL.of_eq rfl) ?_) | (refine CallC.mk (fit_D l (by omega) (fun e he => by have := h2 e he; omega)) (LeL.of_eq rfl) ?_) | (refine CallC.light (fit_D l (by omega) (fun e he => by have := h2 e he; omega)) (LeL.of_eq rfl) ?_) | (refine CallC.mk (buildP_D l (by omega) (fun e he => by have := h2 e he; omega)) (LeL.of_eq rfl) ?_) | (refine CallC.light (buildP_D l (by omega) (fun e he => by have := h2 e he; omega)) (LeL.of_eq rfl) ?_) | (refine CallC.mk (build_D l (by omega) (fun e he => by have := h2 e he; omega)) (LeL.of_eq rfl) ?_) | (refine CallC.light (build_D l (by omega) (fun e he => by have := h2 e he; omega)) (LeL.of_eq rfl) ?_) | (refine CallC.mk (hs) (LeL.of_eq rfl) ?_) | (refine CallC.light (hs) (LeL.of_eq rfl) ?_) | (refine CallC.mk (awake_D) (LeL.of_eq rfl) ?_) | (refine CallC.light (awake_D) (LeL.of_eq rfl) ?_) | (refine dw_ret ?_)); simp (decide := true) only [go_sem, reduceIte, reduceCtorEq, Nat.reduceEqDiff, Nat.reduceAdd, Nat.reduceMul, Nat.reduceSub, Nat.reduceLeDiff, Nat.reduceBEq, hf, hF]) | (apply dw_cond; (simp (decide := true) only [go_sem, reduceIte, reduceCtorEq, Nat.reduceEqDiff, Nat.reduceAdd, Nat.reduceMul, Nat.reduceSub, Nat.reduceLeDiff, Nat.reduceBEq, hf, hF]; rfl); all_goals (intro hcnd; first | (exact absurd hcnd (by decide)) | skip)) | ((first | refine guardC_f ?_ ?_ | refine guardC_t ?_ ?_) <;> (intro hcnd; simp (decide := true) only [go_sem, reduceIte, reduceCtorEq, Nat.reduceEqDiff, Nat.reduceAdd, Nat.reduceMul, Nat.reduceSub, Nat.reduceLeDiff, Nat.reduceBEq, hcnd, hf, hF]))))

--F4
set_option maxRecDepth 10000 in
theorem lawChecks (l : List Row) (hl : l.length ≤ maxLen) : DCalls Try.prog 4 [dv (.sl 2 (l.map Row.enc))] (dv (lb true)) := by
  refine dcalls (N := 15) (rs := [.tmp 2]) (by kernel_rfl) Try.func4 rfl rfl rfl (by simp) ?_
  cases hf : shortB l with
  | false => (repeat' (first | (refine dw_seq ?_) | (refine dw_block ?_) | ((first | (refine dw_reg (N := 15) rfl (by kernel_rfl) ?_) | (refine dw_skip ?_) | (refine dw_exit ?_) | (refine CallC.mk (short_D l hl) (LeL.of_eq rfl) ?_) | (refine CallC.light (short_D l hl) (LeL.of_eq rfl) ?_) | (refine CallC.mk (awake_D) (LeL.of_eq rfl) ?_) | (refine CallC.light (awake_D) (LeL.of_eq rfl) ?_) | (refine dw_ret ?_)); simp (decide := true) only [go_sem, reduceIte, reduceCtorEq, Nat.reduceEqDiff, Nat.reduceAdd, Nat.reduceMul, Nat.reduceSub, Nat.reduceLeDiff, Nat.reduceBEq, hf]) | (apply dw_cond; (simp (decide := true) only [go_sem, reduceIte, reduceCtorEq, Nat.reduceEqDiff, Nat.reduceAdd, Nat.reduceMul, Nat.reduceSub, Nat.reduceLeDiff, Nat.reduceBEq, hf]; rfl); all_goals (intro hcnd; first | (exact absurd hcnd (by decide)) | skip)) | ((first | refine guardC_f ?_ ?_ | refine guardC_t ?_ ?_) <;> (intro hcnd; simp (decide := true) only [go_sem, reduceIte, reduceCtorEq, Nat.reduceEqDiff, Nat.reduceAdd, Nat.reduceMul, Nat.reduceSub, Nat.reduceLeDiff, Nat.reduceBEq, hcnd, hf]))))
  | true =>
    obtain ⟨h1, h2⟩ := short_len hf
    (repeat' (first | (refine dw_seq ?_) | (refine dw_block ?_) | ((first | (refine dw_reg (N := 15) rfl (by kernel_rfl) ?_) | (refine dw_skip ?_) | (refine dw_exit ?_) | (refine CallC.mk (short_D l hl) (LeL.of_eq rfl) ?_) | (refine CallC.light (short_D l hl) (LeL.of_eq rfl) ?_) | (refine CallC.mk (checkP_D l (by omega) (fun e he => by have := h2 e he; omega)) (LeL.of_eq rfl) ?_) | (refine CallC.light (checkP_D l (by omega) (fun e he => by have := h2 e he; omega)) (LeL.of_eq rfl) ?_) | (refine CallC.mk (check_D l (by omega) (fun e he => by have := h2 e he; omega)) (LeL.of_eq rfl) ?_) | (refine CallC.light (check_D l (by omega) (fun e he => by have := h2 e he; omega)) (LeL.of_eq rfl) ?_) | (refine CallC.mk (awake_D) (LeL.of_eq rfl) ?_) | (refine CallC.light (awake_D) (LeL.of_eq rfl) ?_) | (refine dw_ret ?_)); simp (decide := true) only [go_sem, reduceIte, reduceCtorEq, Nat.reduceEqDiff, Nat.reduceAdd, Nat.reduceMul, Nat.reduceSub, Nat.reduceLeDiff, Nat.reduceBEq, hf]) | (apply dw_cond; (simp (decide := true) only [go_sem, reduceIte, reduceCtorEq, Nat.reduceEqDiff, Nat.reduceAdd, Nat.reduceMul, Nat.reduceSub, Nat.reduceLeDiff, Nat.reduceBEq, hf]; rfl); all_goals (intro hcnd; first | (exact absurd hcnd (by decide)) | skip)) | ((first | refine guardC_f ?_ ?_ | refine guardC_t ?_ ?_) <;> (intro hcnd; simp (decide := true) only [go_sem, reduceIte, reduceCtorEq, Nat.reduceEqDiff, Nat.reduceAdd, Nat.reduceMul, Nat.reduceSub, Nat.reduceLeDiff, Nat.reduceBEq, hcnd, hf]))))

--F5
set_option maxRecDepth 10000 in
theorem lawFinds (l : List Row) (g : ByteArray) (hl : l.length ≤ maxLen) : DCalls Try.prog 5 [dv (.sl 2 (l.map Row.enc)), dv (ls g)] (dv (lb true)) := by
  refine dcalls (N := 24) (rs := [.tmp 4]) (by kernel_rfl) Try.func5 rfl rfl rfl (by simp) ?_
  cases hf : shortB l with
  | false => (repeat' (first | (refine dw_seq ?_) | (refine dw_block ?_) | ((first | (refine dw_reg (N := 24) rfl (by kernel_rfl) ?_) | (refine dw_skip ?_) | (refine dw_exit ?_) | (refine CallC.mk (short_D l hl) (LeL.of_eq rfl) ?_) | (refine CallC.light (short_D l hl) (LeL.of_eq rfl) ?_) | (refine CallC.mk (awake_D) (LeL.of_eq rfl) ?_) | (refine CallC.light (awake_D) (LeL.of_eq rfl) ?_) | (refine dw_ret ?_)); simp (decide := true) only [go_sem, reduceIte, reduceCtorEq, Nat.reduceEqDiff, Nat.reduceAdd, Nat.reduceMul, Nat.reduceSub, Nat.reduceLeDiff, Nat.reduceBEq, hf]) | (apply dw_cond; (simp (decide := true) only [go_sem, reduceIte, reduceCtorEq, Nat.reduceEqDiff, Nat.reduceAdd, Nat.reduceMul, Nat.reduceSub, Nat.reduceLeDiff, Nat.reduceBEq, hf]; rfl); all_goals (intro hcnd; first | (exact absurd hcnd (by decide)) | skip)) | ((first | refine guardC_f ?_ ?_ | refine guardC_t ?_ ?_) <;> (intro hcnd; simp (decide := true) only [go_sem, reduceIte, reduceCtorEq, Nat.reduceEqDiff, Nat.reduceAdd, Nat.reduceMul, Nat.reduceSub, Nat.reduceLeDiff, Nat.reduceBEq, hcnd, hf]))))
  | true =>
    obtain ⟨h1, h2⟩ := short_len hf
    have hF : (findR l g).length ≤ maxLen := by
      have hb : ∀ c, findAt l g c = none ∨ ∃ r ∈ l, findAt l g c = some r.senses := fun c => by
        unfold findAt
        split
        · rename_i r hr
          split
          · exact .inr ⟨r, List.mem_of_getElem? hr, rfl⟩
          · exact .inl rfl
        · exact .inl rfl
      unfold findR
      cases hc : fs l.length (findAt l g) with
      | none => simp [maxLen]
      | some ps =>
        unfold fs at hc
        obtain ⟨c, _, hc2⟩ := List.exists_of_findSome?_eq_some hc
        rcases hb c with h | ⟨r, hr, h⟩
        · rw [h] at hc2; cases hc2
        · rw [h] at hc2; injection hc2 with hc2; subst hc2
          have := h2 r hr
          simp [maxLen]; omega
    have hp := parts_D (findR l g) (findR l g) hF hF
    simp only [decide_true] at hp
    (repeat' (first | (refine dw_seq ?_) | (refine dw_block ?_) | ((first | (refine dw_reg (N := 24) rfl (by kernel_rfl) ?_) | (refine dw_skip ?_) | (refine dw_exit ?_) | (refine CallC.mk (short_D l hl) (LeL.of_eq rfl) ?_) | (refine CallC.light (short_D l hl) (LeL.of_eq rfl) ?_) | (refine CallC.mk (findP_D l g (by omega)) (LeL.of_eq rfl) ?_) | (refine CallC.light (findP_D l g (by omega)) (LeL.of_eq rfl) ?_) | (refine CallC.mk (find_D l g (by omega)) (LeL.of_eq rfl) ?_) | (refine CallC.light (find_D l g (by omega)) (LeL.of_eq rfl) ?_) | (refine CallC.mk (hp) (LeL.of_eq rfl) ?_) | (refine CallC.light (hp) (LeL.of_eq rfl) ?_) | (refine CallC.mk (awake_D) (LeL.of_eq rfl) ?_) | (refine CallC.light (awake_D) (LeL.of_eq rfl) ?_) | (refine dw_ret ?_)); simp (decide := true) only [go_sem, reduceIte, reduceCtorEq, Nat.reduceEqDiff, Nat.reduceAdd, Nat.reduceMul, Nat.reduceSub, Nat.reduceLeDiff, Nat.reduceBEq, hf]) | (apply dw_cond; (simp (decide := true) only [go_sem, reduceIte, reduceCtorEq, Nat.reduceEqDiff, Nat.reduceAdd, Nat.reduceMul, Nat.reduceSub, Nat.reduceLeDiff, Nat.reduceBEq, hf]; rfl); all_goals (intro hcnd; first | (exact absurd hcnd (by decide)) | skip)) | ((first | refine guardC_f ?_ ?_ | refine guardC_t ?_ ?_) <;> (intro hcnd; simp (decide := true) only [go_sem, reduceIte, reduceCtorEq, Nat.reduceEqDiff, Nat.reduceAdd, Nat.reduceMul, Nat.reduceSub, Nat.reduceLeDiff, Nat.reduceBEq, hcnd, hf]))))

--F7
set_option maxRecDepth 10000 in
theorem lawSame (a b : List Row) (ha : a.length ≤ maxLen) (hb : b.length ≤ maxLen) : DCalls Try.prog 7 [dv (.sl 2 (a.map Row.enc)), dv (.sl 2 (b.map Row.enc))] (dv (lb true)) := by
  have hmax := maxBig
  refine dcalls (N := 29) (rs := [.tmp 4]) (by kernel_rfl) Try.func7 rfl rfl rfl (by simp) ?_
  cases hf : shortB a with
  | false => (repeat' (first | (refine dw_seq ?_) | (refine dw_block ?_) | ((first | (refine dw_reg (N := 29) rfl (by kernel_rfl) ?_) | (refine dw_skip ?_) | (refine dw_exit ?_) | (refine CallC.mk (short_D a ha) (LeL.of_eq rfl) ?_) | (refine CallC.light (short_D a ha) (LeL.of_eq rfl) ?_) | (refine CallC.mk (awake_D) (LeL.of_eq rfl) ?_) | (refine CallC.light (awake_D) (LeL.of_eq rfl) ?_) | (refine dw_ret ?_)); simp (decide := true) only [go_sem, reduceIte, reduceCtorEq, Nat.reduceEqDiff, Nat.reduceAdd, Nat.reduceMul, Nat.reduceSub, Nat.reduceLeDiff, Nat.reduceBEq, hf]) | (apply dw_cond; (simp (decide := true) only [go_sem, reduceIte, reduceCtorEq, Nat.reduceEqDiff, Nat.reduceAdd, Nat.reduceMul, Nat.reduceSub, Nat.reduceLeDiff, Nat.reduceBEq, hf]; rfl); all_goals (intro hcnd; first | (exact absurd hcnd (by decide)) | skip)) | ((first | refine guardC_f ?_ ?_ | refine guardC_t ?_ ?_) <;> (intro hcnd; simp (decide := true) only [go_sem, reduceIte, reduceCtorEq, Nat.reduceEqDiff, Nat.reduceAdd, Nat.reduceMul, Nat.reduceSub, Nat.reduceLeDiff, Nat.reduceBEq, hcnd, hf]))))
  | true =>
    obtain ⟨h1, h2⟩ := short_len hf
    cases hg : shortB b with
    | false => (repeat' (first | (refine dw_seq ?_) | (refine dw_block ?_) | ((first | (refine dw_reg (N := 29) rfl (by kernel_rfl) ?_) | (refine dw_skip ?_) | (refine dw_exit ?_) | (refine CallC.mk (short_D a ha) (LeL.of_eq rfl) ?_) | (refine CallC.light (short_D a ha) (LeL.of_eq rfl) ?_) | (refine CallC.mk (short_D b hb) (LeL.of_eq rfl) ?_) | (refine CallC.light (short_D b hb) (LeL.of_eq rfl) ?_) | (refine CallC.mk (awake_D) (LeL.of_eq rfl) ?_) | (refine CallC.light (awake_D) (LeL.of_eq rfl) ?_) | (refine dw_ret ?_)); simp (decide := true) only [go_sem, reduceIte, reduceCtorEq, Nat.reduceEqDiff, Nat.reduceAdd, Nat.reduceMul, Nat.reduceSub, Nat.reduceLeDiff, Nat.reduceBEq, hf, hg]) | (apply dw_cond; (simp (decide := true) only [go_sem, reduceIte, reduceCtorEq, Nat.reduceEqDiff, Nat.reduceAdd, Nat.reduceMul, Nat.reduceSub, Nat.reduceLeDiff, Nat.reduceBEq, hf, hg]; rfl); all_goals (intro hcnd; first | (exact absurd hcnd (by decide)) | skip)) | ((first | refine guardC_f ?_ ?_ | refine guardC_t ?_ ?_) <;> (intro hcnd; simp (decide := true) only [go_sem, reduceIte, reduceCtorEq, Nat.reduceEqDiff, Nat.reduceAdd, Nat.reduceMul, Nat.reduceSub, Nat.reduceLeDiff, Nat.reduceBEq, hcnd, hf, hg]))))
    | true =>
      obtain ⟨g1, g2⟩ := short_len hg
      have hs := sameP_D a a (by omega) (by omega) (fun r hr => by have := h2 r hr; omega) (fun r hr => by have := h2 r hr; omega)
      simp only [decide_true] at hs
      (repeat' (first | (refine dw_seq ?_) | (refine dw_block ?_) | ((first | (refine dw_reg (N := 29) rfl (by kernel_rfl) ?_) | (refine dw_skip ?_) | (refine dw_exit ?_) | (refine CallC.mk (short_D a ha) (LeL.of_eq rfl) ?_) | (refine CallC.light (short_D a ha) (LeL.of_eq rfl) ?_) | (refine CallC.mk (short_D b hb) (LeL.of_eq rfl) ?_) | (refine CallC.light (short_D b hb) (LeL.of_eq rfl) ?_) | (refine CallC.mk (sameP_D a b (by omega) (by omega) (fun r hr => by have := h2 r hr; omega) (fun r hr => by have := g2 r hr; omega)) (LeL.of_eq rfl) ?_) | (refine CallC.light (sameP_D a b (by omega) (by omega) (fun r hr => by have := h2 r hr; omega) (fun r hr => by have := g2 r hr; omega)) (LeL.of_eq rfl) ?_) | (refine CallC.mk (same_D a b (by omega) (by omega) (fun r hr => by have := h2 r hr; omega) (fun r hr => by have := g2 r hr; omega)) (LeL.of_eq rfl) ?_) | (refine CallC.light (same_D a b (by omega) (by omega) (fun r hr => by have := h2 r hr; omega) (fun r hr => by have := g2 r hr; omega)) (LeL.of_eq rfl) ?_) | (refine CallC.mk (hs) (LeL.of_eq rfl) ?_) | (refine CallC.light (hs) (LeL.of_eq rfl) ?_) | (refine CallC.mk (awake_D) (LeL.of_eq rfl) ?_) | (refine CallC.light (awake_D) (LeL.of_eq rfl) ?_) | (refine dw_ret ?_)); simp (decide := true) only [go_sem, reduceIte, reduceCtorEq, Nat.reduceEqDiff, Nat.reduceAdd, Nat.reduceMul, Nat.reduceSub, Nat.reduceLeDiff, Nat.reduceBEq, hf, hg]) | (apply dw_cond; (simp (decide := true) only [go_sem, reduceIte, reduceCtorEq, Nat.reduceEqDiff, Nat.reduceAdd, Nat.reduceMul, Nat.reduceSub, Nat.reduceLeDiff, Nat.reduceBEq, hf, hg]; rfl); all_goals (intro hcnd; first | (exact absurd hcnd (by decide)) | skip)) | ((first | refine guardC_f ?_ ?_ | refine guardC_t ?_ ?_) <;> (intro hcnd; simp (decide := true) only [go_sem, reduceIte, reduceCtorEq, Nat.reduceEqDiff, Nat.reduceAdd, Nat.reduceMul, Nat.reduceSub, Nat.reduceLeDiff, Nat.reduceBEq, hcnd, hf, hg]))))
end Go.Proofs.Ytffcabenoakmgaa

/- Contracts of the laws of reversals (II): Updates, Follows. -/
namespace Go.Proofs.Ytffcabenoakmgaa
open Go.Dl
attribute [local irreducible] DW DCalls ECalls wk

theorem rowsOk_short {l : List Row} (h : shortB l = true) : RowsOk 60 l := short_len h

theorem update_len {rows : List Row} {n : Nat} (h : RowsOk n rows) (o e : Entry) : RowsOk (n + e.senses.length) (updateR rows o e) := by
  unfold updateR
  have h1 : RowsOk n (if 1 ≤ o.id then takesN rows o.id o.senses o.senses.length else rows) := by split; exact takesN_ok h _ _ _; exact h
  simp only
  split
  · exact putsN_ok h1 _ _ _
  · exact h1.mono (by omega)

theorem few2 {a b : Entry} (h : few28 [a, b] = true) : a.senses.length ≤ 10 ∧ b.senses.length ≤ 10 := by
  have := few28_len h
  exact ⟨this.2 a (by simp), this.2 b (by simp)⟩
theorem few1 {a : Entry} (h : few28 [a] = true) : a.senses.length ≤ 10 := (few28_len h).2 a (by simp)

--F6
set_option maxRecDepth 10000 in
set_option maxHeartbeats 4000000 in
theorem lawUpdates (rows : List Row) (o n : Entry) (hl : rows.length ≤ maxLen) : DCalls Try.prog 6 [dv (.sl 2 (rows.map Row.enc)), .agg (o.enc.map T.c), .agg (n.enc.map T.c)] (dv (lb true)) := by
  refine dcalls (N := 45) (rs := [.tmp 6]) (by kernel_rfl) Try.func6 rfl rfl rfl (by simp) ?_
  cases hf : shortB rows with
  | false => (repeat' (first | (refine dw_seq ?_) | (refine dw_block ?_) | ((first | (refine dw_reg (N := 45) rfl (by kernel_rfl) ?_) | (apply dw_drw (id := 3) (N := 45) [(0, .light), (1, .light), (2, .light), (3, .light), (4, .light), (5, .light), (6, .light), (7, .step), (8, .step), (9, .light), (10, .step), (11, .light), (12, .light)]; kernel_rfl; rfl; kernel_rfl; (repeat (first | exact Picks.nil | (apply Picks.cons; rfl)))) | (refine dw_skip ?_) | (refine dw_exit ?_) | (refine CallC.mk (short_D rows hl) (LeL.of_eq rfl) ?_) | (refine CallC.light (short_D rows hl) (LeL.of_eq rfl) ?_) | (refine CallC.mk (awake_D) (LeL.of_eq rfl) ?_) | (refine CallC.light (awake_D) (LeL.of_eq rfl) ?_) | (refine dw_ret ?_)); simp (decide := true) only [go_sem, reduceIte, reduceCtorEq, Nat.reduceEqDiff, Nat.reduceAdd, Nat.reduceMul, Nat.reduceSub, Nat.reduceLeDiff, Nat.reduceBEq, hf, Entry.enc]) | (apply dw_cond; (simp (decide := true) only [go_sem, reduceIte, reduceCtorEq, Nat.reduceEqDiff, Nat.reduceAdd, Nat.reduceMul, Nat.reduceSub, Nat.reduceLeDiff, Nat.reduceBEq, hf, Entry.enc]; rfl); all_goals (intro hcnd; first | (exact absurd hcnd (by decide)) | skip)) | ((first | refine guardC_f ?_ ?_ | refine guardC_t ?_ ?_) <;> (intro hcnd; simp (decide := true) only [go_sem, reduceIte, reduceCtorEq, Nat.reduceEqDiff, Nat.reduceAdd, Nat.reduceMul, Nat.reduceSub, Nat.reduceLeDiff, Nat.reduceBEq, hcnd, hf, Entry.enc]))))
  | true =>
    obtain ⟨h1, h2⟩ := short_len hf
    have kc := check_D rows (by omega) (fun r hr => by have := h2 r hr; omega)
    cases hc : (checkR rows != 0) with
    | true => (repeat' (first | (refine dw_seq ?_) | (refine dw_block ?_) | ((first | (refine dw_reg (N := 45) rfl (by kernel_rfl) ?_) | (apply dw_drw (id := 3) (N := 45) [(0, .light), (1, .light), (2, .light), (3, .light), (4, .light), (5, .light), (6, .light), (7, .step), (8, .step), (9, .light), (10, .step), (11, .light), (12, .light)]; kernel_rfl; rfl; kernel_rfl; (repeat (first | exact Picks.nil | (apply Picks.cons; rfl)))) | (refine dw_skip ?_) | (refine dw_exit ?_) | (refine CallC.mk (short_D rows hl) (LeL.of_eq rfl) ?_) | (refine CallC.light (short_D rows hl) (LeL.of_eq rfl) ?_) | (refine CallC.mk (kc) (LeL.of_eq rfl) ?_) | (refine CallC.light (kc) (LeL.of_eq rfl) ?_) | (refine CallC.mk (awake_D) (LeL.of_eq rfl) ?_) | (refine CallC.light (awake_D) (LeL.of_eq rfl) ?_) | (refine dw_ret ?_)); simp (decide := true) only [go_sem, reduceIte, reduceCtorEq, Nat.reduceEqDiff, Nat.reduceAdd, Nat.reduceMul, Nat.reduceSub, Nat.reduceLeDiff, Nat.reduceBEq, hf, hc, Entry.enc]) | (apply dw_cond; (simp (decide := true) only [go_sem, reduceIte, reduceCtorEq, Nat.reduceEqDiff, Nat.reduceAdd, Nat.reduceMul, Nat.reduceSub, Nat.reduceLeDiff, Nat.reduceBEq, hf, hc, Entry.enc]; rfl); all_goals (intro hcnd; first | (exact absurd hcnd (by decide)) | skip)) | ((first | refine guardC_f ?_ ?_ | refine guardC_t ?_ ?_) <;> (intro hcnd; simp (decide := true) only [go_sem, reduceIte, reduceCtorEq, Nat.reduceEqDiff, Nat.reduceAdd, Nat.reduceMul, Nat.reduceSub, Nat.reduceLeDiff, Nat.reduceBEq, hcnd, hf, hc, Entry.enc]))))
    | false =>
      have hc0 : checkR rows = 0 := by simpa using hc
      have hg := ((check_iff rows).1 hc0).1
      have kf := few28_D [o, n] (by simp [maxLen])
      cases hw : few28 [o, n] with
      | false => (repeat' (first | (refine dw_seq ?_) | (refine dw_block ?_) | ((first | (refine dw_reg (N := 45) rfl (by kernel_rfl) ?_) | (apply dw_drw (id := 3) (N := 45) [(0, .light), (1, .light), (2, .light), (3, .light), (4, .light), (5, .light), (6, .light), (7, .step), (8, .step), (9, .light), (10, .step), (11, .light), (12, .light)]; kernel_rfl; rfl; kernel_rfl; (repeat (first | exact Picks.nil | (apply Picks.cons; rfl)))) | (refine dw_skip ?_) | (refine dw_exit ?_) | (refine CallC.mk (short_D rows hl) (LeL.of_eq rfl) ?_) | (refine CallC.light (short_D rows hl) (LeL.of_eq rfl) ?_) | (refine CallC.mk (kc) (LeL.of_eq rfl) ?_) | (refine CallC.light (kc) (LeL.of_eq rfl) ?_) | (refine CallC.mk (kf) (LeL.of_eq rfl) ?_) | (refine CallC.light (kf) (LeL.of_eq rfl) ?_) | (refine CallC.mk (awake_D) (LeL.of_eq rfl) ?_) | (refine CallC.light (awake_D) (LeL.of_eq rfl) ?_) | (refine dw_ret ?_)); simp (decide := true) only [go_sem, reduceIte, reduceCtorEq, Nat.reduceEqDiff, Nat.reduceAdd, Nat.reduceMul, Nat.reduceSub, Nat.reduceLeDiff, Nat.reduceBEq, hf, hc, hw, Entry.enc]) | (apply dw_cond; (simp (decide := true) only [go_sem, reduceIte, reduceCtorEq, Nat.reduceEqDiff, Nat.reduceAdd, Nat.reduceMul, Nat.reduceSub, Nat.reduceLeDiff, Nat.reduceBEq, hf, hc, hw, Entry.enc]; rfl); all_goals (intro hcnd; first | (exact absurd hcnd (by decide)) | skip)) | ((first | refine guardC_f ?_ ?_ | refine guardC_t ?_ ?_) <;> (intro hcnd; simp (decide := true) only [go_sem, reduceIte, reduceCtorEq, Nat.reduceEqDiff, Nat.reduceAdd, Nat.reduceMul, Nat.reduceSub, Nat.reduceLeDiff, Nat.reduceBEq, hcnd, hf, hc, hw, Entry.enc]))))
      | true =>
        obtain ⟨ho, hn⟩ := few2 hw
        have k1 := once_D o (by omega)
        have k2 := once_D n (by omega)
        cases ho1 : onceB o.senses with
        | false => (repeat' (first | (refine dw_seq ?_) | (refine dw_block ?_) | ((first | (refine dw_reg (N := 45) rfl (by kernel_rfl) ?_) | (apply dw_drw (id := 3) (N := 45) [(0, .light), (1, .light), (2, .light), (3, .light), (4, .light), (5, .light), (6, .light), (7, .step), (8, .step), (9, .light), (10, .step), (11, .light), (12, .light)]; kernel_rfl; rfl; kernel_rfl; (repeat (first | exact Picks.nil | (apply Picks.cons; rfl)))) | (refine dw_skip ?_) | (refine dw_exit ?_) | (refine CallC.mk (short_D rows hl) (LeL.of_eq rfl) ?_) | (refine CallC.light (short_D rows hl) (LeL.of_eq rfl) ?_) | (refine CallC.mk (kc) (LeL.of_eq rfl) ?_) | (refine CallC.light (kc) (LeL.of_eq rfl) ?_) | (refine CallC.mk (kf) (LeL.of_eq rfl) ?_) | (refine CallC.light (kf) (LeL.of_eq rfl) ?_) | (refine CallC.mk (k1) (LeL.of_eq rfl) ?_) | (refine CallC.light (k1) (LeL.of_eq rfl) ?_) | (refine CallC.mk (awake_D) (LeL.of_eq rfl) ?_) | (refine CallC.light (awake_D) (LeL.of_eq rfl) ?_) | (refine dw_ret ?_)); simp (decide := true) only [go_sem, reduceIte, reduceCtorEq, Nat.reduceEqDiff, Nat.reduceAdd, Nat.reduceMul, Nat.reduceSub, Nat.reduceLeDiff, Nat.reduceBEq, hf, hc, hw, ho1, Entry.enc]) | (apply dw_cond; (simp (decide := true) only [go_sem, reduceIte, reduceCtorEq, Nat.reduceEqDiff, Nat.reduceAdd, Nat.reduceMul, Nat.reduceSub, Nat.reduceLeDiff, Nat.reduceBEq, hf, hc, hw, ho1, Entry.enc]; rfl); all_goals (intro hcnd; first | (exact absurd hcnd (by decide)) | skip)) | ((first | refine guardC_f ?_ ?_ | refine guardC_t ?_ ?_) <;> (intro hcnd; simp (decide := true) only [go_sem, reduceIte, reduceCtorEq, Nat.reduceEqDiff, Nat.reduceAdd, Nat.reduceMul, Nat.reduceSub, Nat.reduceLeDiff, Nat.reduceBEq, hcnd, hf, hc, hw, ho1, Entry.enc]))))
        | true =>
          cases hn1 : onceB n.senses with
          | false => (repeat' (first | (refine dw_seq ?_) | (refine dw_block ?_) | ((first | (refine dw_reg (N := 45) rfl (by kernel_rfl) ?_) | (apply dw_drw (id := 3) (N := 45) [(0, .light), (1, .light), (2, .light), (3, .light), (4, .light), (5, .light), (6, .light), (7, .step), (8, .step), (9, .light), (10, .step), (11, .light), (12, .light)]; kernel_rfl; rfl; kernel_rfl; (repeat (first | exact Picks.nil | (apply Picks.cons; rfl)))) | (refine dw_skip ?_) | (refine dw_exit ?_) | (refine CallC.mk (short_D rows hl) (LeL.of_eq rfl) ?_) | (refine CallC.light (short_D rows hl) (LeL.of_eq rfl) ?_) | (refine CallC.mk (kc) (LeL.of_eq rfl) ?_) | (refine CallC.light (kc) (LeL.of_eq rfl) ?_) | (refine CallC.mk (kf) (LeL.of_eq rfl) ?_) | (refine CallC.light (kf) (LeL.of_eq rfl) ?_) | (refine CallC.mk (k1) (LeL.of_eq rfl) ?_) | (refine CallC.light (k1) (LeL.of_eq rfl) ?_) | (refine CallC.mk (k2) (LeL.of_eq rfl) ?_) | (refine CallC.light (k2) (LeL.of_eq rfl) ?_) | (refine CallC.mk (awake_D) (LeL.of_eq rfl) ?_) | (refine CallC.light (awake_D) (LeL.of_eq rfl) ?_) | (refine dw_ret ?_)); simp (decide := true) only [go_sem, reduceIte, reduceCtorEq, Nat.reduceEqDiff, Nat.reduceAdd, Nat.reduceMul, Nat.reduceSub, Nat.reduceLeDiff, Nat.reduceBEq, hf, hc, hw, ho1, hn1, Entry.enc]) | (apply dw_cond; (simp (decide := true) only [go_sem, reduceIte, reduceCtorEq, Nat.reduceEqDiff, Nat.reduceAdd, Nat.reduceMul, Nat.reduceSub, Nat.reduceLeDiff, Nat.reduceBEq, hf, hc, hw, ho1, hn1, Entry.enc]; rfl); all_goals (intro hcnd; first | (exact absurd hcnd (by decide)) | skip)) | ((first | refine guardC_f ?_ ?_ | refine guardC_t ?_ ?_) <;> (intro hcnd; simp (decide := true) only [go_sem, reduceIte, reduceCtorEq, Nat.reduceEqDiff, Nat.reduceAdd, Nat.reduceMul, Nat.reduceSub, Nat.reduceLeDiff, Nat.reduceBEq, hcnd, hf, hc, hw, ho1, hn1, Entry.enc]))))
          | true =>
            have hu := update_len (rowsOk_short hf) o n
            have hs := same_D (updateR rows o n) (updateR rows o n) (by have := hu.1; omega) (by have := hu.1; omega) (fun r hr => by have := hu.2 r hr; simp [maxLen]; omega) (fun r hr => by have := hu.2 r hr; simp [maxLen]; omega)
            simp only [decide_true] at hs
            have ku := updateP_D rows o n ((rowsOk_short hf).mono (by omega)) hg (by omega) (by omega)
            have kr := update_D rows o n ((rowsOk_short hf).mono (by omega)) (by omega) (by omega)
            (repeat' (first | (refine dw_seq ?_) | (refine dw_block ?_) | ((first | (refine dw_reg (N := 45) rfl (by kernel_rfl) ?_) | (apply dw_drw (id := 3) (N := 45) [(0, .light), (1, .light), (2, .light), (3, .light), (4, .light), (5, .light), (6, .light), (7, .step), (8, .step), (9, .light), (10, .step), (11, .light), (12, .light)]; kernel_rfl; rfl; kernel_rfl; (repeat (first | exact Picks.nil | (apply Picks.cons; rfl)))) | (refine dw_skip ?_) | (refine dw_exit ?_) | (refine CallC.mk (short_D rows hl) (LeL.of_eq rfl) ?_) | (refine CallC.light (short_D rows hl) (LeL.of_eq rfl) ?_) | (refine CallC.mk (kc) (LeL.of_eq rfl) ?_) | (refine CallC.light (kc) (LeL.of_eq rfl) ?_) | (refine CallC.mk (kf) (LeL.of_eq rfl) ?_) | (refine CallC.light (kf) (LeL.of_eq rfl) ?_) | (refine CallC.mk (k1) (LeL.of_eq rfl) ?_) | (refine CallC.light (k1) (LeL.of_eq rfl) ?_) | (refine CallC.mk (k2) (LeL.of_eq rfl) ?_) | (refine CallC.light (k2) (LeL.of_eq rfl) ?_) | (refine CallC.mk (ku) (LeL.of_eq rfl) ?_) | (refine CallC.light (ku) (LeL.of_eq rfl) ?_) | (refine CallC.mk (kr) (LeL.of_eq rfl) ?_) | (refine CallC.light (kr) (LeL.of_eq rfl) ?_) | (refine CallC.mk (hs) (LeL.of_eq rfl) ?_) | (refine CallC.light (hs) (LeL.of_eq rfl) ?_) | (refine CallC.mk (awake_D) (LeL.of_eq rfl) ?_) | (refine CallC.light (awake_D) (LeL.of_eq rfl) ?_) | (refine dw_ret ?_)); simp (decide := true) only [go_sem, reduceIte, reduceCtorEq, Nat.reduceEqDiff, Nat.reduceAdd, Nat.reduceMul, Nat.reduceSub, Nat.reduceLeDiff, Nat.reduceBEq, hf, hc, hw, ho1, hn1, Entry.enc]) | (apply dw_cond; (simp (decide := true) only [go_sem, reduceIte, reduceCtorEq, Nat.reduceEqDiff, Nat.reduceAdd, Nat.reduceMul, Nat.reduceSub, Nat.reduceLeDiff, Nat.reduceBEq, hf, hc, hw, ho1, hn1, Entry.enc]; rfl); all_goals (intro hcnd; first | (exact absurd hcnd (by decide)) | skip)) | ((first | refine guardC_f ?_ ?_ | refine guardC_t ?_ ?_) <;> (intro hcnd; simp (decide := true) only [go_sem, reduceIte, reduceCtorEq, Nat.reduceEqDiff, Nat.reduceAdd, Nat.reduceMul, Nat.reduceSub, Nat.reduceLeDiff, Nat.reduceBEq, hcnd, hf, hc, hw, ho1, hn1, Entry.enc]))))

def fit28 (l : List Entry) : Bool := few28 l && (fitB l && match l[0]? with | none => true | some e => decide (1 ≤ e.id))

--F27
set_option maxRecDepth 10000 in
theorem fit28_D (l : List Entry) (hl : l.length ≤ maxLen) : DCalls Try.prog 27 [dv (.sl 8 (l.map Entry.enc))] (dv (lb (fit28 l))) := by
  refine dcalls (N := 21) (rs := [.tmp 2]) (by kernel_rfl) Try.func27 rfl rfl rfl (by simp) ?_
  cases hf : few28 l with
  | false =>
    (repeat' (first | (refine dw_seq ?_) | (refine dw_block ?_) | ((first | (refine dw_reg (N := 21) rfl (by kernel_rfl) ?_) | (refine dw_skip ?_) | (refine dw_exit ?_) | (refine CallC.mk (few28_D l hl) (LeL.of_eq rfl) ?_) | (refine CallC.light (few28_D l hl) (LeL.of_eq rfl) ?_) | (refine dw_ret ?_)); simp (decide := true) only [go_sem, reduceIte, reduceCtorEq, Nat.reduceEqDiff, Nat.reduceAdd, Nat.reduceMul, Nat.reduceSub, Nat.reduceLeDiff, Nat.reduceBEq, hf]) | (apply dw_cond; (simp (decide := true) only [go_sem, reduceIte, reduceCtorEq, Nat.reduceEqDiff, Nat.reduceAdd, Nat.reduceMul, Nat.reduceSub, Nat.reduceLeDiff, Nat.reduceBEq, hf]; rfl); all_goals (intro hcnd; first | (exact absurd hcnd (by decide)) | skip)) | ((first | refine guardC_f ?_ ?_ | refine guardC_t ?_ ?_) <;> (intro hcnd; simp (decide := true) only [go_sem, reduceIte, reduceCtorEq, Nat.reduceEqDiff, Nat.reduceAdd, Nat.reduceMul, Nat.reduceSub, Nat.reduceLeDiff, Nat.reduceBEq, hcnd, hf]))))
    simp [fit28, hf]
  | true =>
    obtain ⟨h1, h2⟩ := few28_len hf
    have kf := fit_D l (by omega) (fun e he => by have := h2 e he; omega)
    cases hF : fitB l with
    | false =>
      (repeat' (first | (refine dw_seq ?_) | (refine dw_block ?_) | ((first | (refine dw_reg (N := 21) rfl (by kernel_rfl) ?_) | (refine dw_skip ?_) | (refine dw_exit ?_) | (refine CallC.mk (few28_D l hl) (LeL.of_eq rfl) ?_) | (refine CallC.light (few28_D l hl) (LeL.of_eq rfl) ?_) | (refine CallC.mk (kf) (LeL.of_eq rfl) ?_) | (refine CallC.light (kf) (LeL.of_eq rfl) ?_) | (refine dw_ret ?_)); simp (decide := true) only [go_sem, reduceIte, reduceCtorEq, Nat.reduceEqDiff, Nat.reduceAdd, Nat.reduceMul, Nat.reduceSub, Nat.reduceLeDiff, Nat.reduceBEq, hf, hF]) | (apply dw_cond; (simp (decide := true) only [go_sem, reduceIte, reduceCtorEq, Nat.reduceEqDiff, Nat.reduceAdd, Nat.reduceMul, Nat.reduceSub, Nat.reduceLeDiff, Nat.reduceBEq, hf, hF]; rfl); all_goals (intro hcnd; first | (exact absurd hcnd (by decide)) | skip)) | ((first | refine guardC_f ?_ ?_ | refine guardC_t ?_ ?_) <;> (intro hcnd; simp (decide := true) only [go_sem, reduceIte, reduceCtorEq, Nat.reduceEqDiff, Nat.reduceAdd, Nat.reduceMul, Nat.reduceSub, Nat.reduceLeDiff, Nat.reduceBEq, hcnd, hf, hF]))))
      simp [fit28, hf, hF]
    | true =>
      cases l with
      | nil =>
        (repeat' (first | (refine dw_seq ?_) | (refine dw_block ?_) | ((first | (refine dw_reg (N := 21) rfl (by kernel_rfl) ?_) | (refine dw_skip ?_) | (refine dw_exit ?_) | (refine CallC.mk (few28_D [] hl) (LeL.of_eq rfl) ?_) | (refine CallC.light (few28_D [] hl) (LeL.of_eq rfl) ?_) | (refine CallC.mk (kf) (LeL.of_eq rfl) ?_) | (refine CallC.light (kf) (LeL.of_eq rfl) ?_) | (refine dw_ret ?_)); simp (decide := true) only [go_sem, reduceIte, reduceCtorEq, Nat.reduceEqDiff, Nat.reduceAdd, Nat.reduceMul, Nat.reduceSub, Nat.reduceLeDiff, Nat.reduceBEq, hf, hF]) | (apply dw_cond; (simp (decide := true) only [go_sem, reduceIte, reduceCtorEq, Nat.reduceEqDiff, Nat.reduceAdd, Nat.reduceMul, Nat.reduceSub, Nat.reduceLeDiff, Nat.reduceBEq, hf, hF]; rfl); all_goals (intro hcnd; first | (exact absurd hcnd (by decide)) | skip)) | ((first | refine guardC_f ?_ ?_ | refine guardC_t ?_ ?_) <;> (intro hcnd; simp (decide := true) only [go_sem, reduceIte, reduceCtorEq, Nat.reduceEqDiff, Nat.reduceAdd, Nat.reduceMul, Nat.reduceSub, Nat.reduceLeDiff, Nat.reduceBEq, hcnd, hf, hF]))))
        simp [fit28, hf, hF]
      | cons e l =>
        have hz : (((l.length + 1 : Nat) : Int) == 0) = false := by simp; omega
        (repeat' (first | (refine dw_seq ?_) | (refine dw_block ?_) | ((first | (refine dw_reg (N := 21) rfl (by kernel_rfl) ?_) | (refine dw_skip ?_) | (refine dw_exit ?_) | (refine CallC.mk (few28_D (e :: l) hl) (LeL.of_eq rfl) ?_) | (refine CallC.light (few28_D (e :: l) hl) (LeL.of_eq rfl) ?_) | (refine CallC.mk (kf) (LeL.of_eq rfl) ?_) | (refine CallC.light (kf) (LeL.of_eq rfl) ?_) | (refine dw_ret ?_)); simp (decide := true) only [go_sem, reduceIte, reduceCtorEq, Nat.reduceEqDiff, Nat.reduceAdd, Nat.reduceMul, Nat.reduceSub, Nat.reduceLeDiff, Nat.reduceBEq, hf, hF, Entry.enc, hz]) | (apply dw_cond; (simp (decide := true) only [go_sem, reduceIte, reduceCtorEq, Nat.reduceEqDiff, Nat.reduceAdd, Nat.reduceMul, Nat.reduceSub, Nat.reduceLeDiff, Nat.reduceBEq, hf, hF, Entry.enc, hz]; rfl); all_goals (intro hcnd; first | (exact absurd hcnd (by decide)) | skip)) | ((first | refine guardC_f ?_ ?_ | refine guardC_t ?_ ?_) <;> (intro hcnd; simp (decide := true) only [go_sem, reduceIte, reduceCtorEq, Nat.reduceEqDiff, Nat.reduceAdd, Nat.reduceMul, Nat.reduceSub, Nat.reduceLeDiff, Nat.reduceBEq, hcnd, hf, hF, Entry.enc, hz]))))
        simp [fit28, hf, hF]

theorem fit28_facts {l : List Entry} (h : fit28 l = true) : l.length ≤ 40 ∧ (∀ e ∈ l, e.senses.length ≤ 10) ∧ Distinct l ∧ ∀ e ∈ l, 1 ≤ e.id := by
  unfold fit28 at h
  simp only [Bool.and_eq_true] at h
  obtain ⟨h1, h2, h3⟩ := h
  have hd := fit_ids h2
  refine ⟨(few28_len h1).1, (few28_len h1).2, hd, fun e he => ?_⟩
  obtain ⟨i, hi⟩ := List.getElem?_of_mem he
  have h0 : l[0]? = some (l[0]'(by have := (List.getElem?_eq_some_iff.1 hi).1; omega)) := List.getElem?_eq_getElem _
  generalize l[0]'(by have := (List.getElem?_eq_some_iff.1 hi).1; omega) = x at h0
  rw [h0] at h3
  have h3 : 1 ≤ x.id := by simpa using h3
  by_cases e0 : i = 0
  · subst e0; rw [h0] at hi; injection hi with hi; subst hi; exact h3
  · have := pw_get hd (show 0 < i by omega) h0 hi
    omega

/-- One round of swap. -/
def swapS (e : Entry) (keep : Bool) (s : List Entry × Bool) (x : Entry) : List Entry × Bool :=
  let c := (!s.2 && keep) && decide (e.id ≤ x.id)
  let o := if c = true then s.1 ++ [e] else s.1
  (if (x.id != e.id) = true then o ++ [x] else o, s.2 || c)
def swapN (l : List Entry) (e : Entry) (keep : Bool) (k : Nat) : List Entry × Bool := (l.take k).foldl (swapS e keep) ([], false)
def swapL (l : List Entry) (e : Entry) (keep : Bool) : List Entry :=
  if (!(swapN l e keep l.length).2 && keep) = true then (swapN l e keep l.length).1 ++ [e] else (swapN l e keep l.length).1

theorem swapN_succ {l : List Entry} {k : Nat} {x : Entry} (e : Entry) (keep : Bool) (ht : l.take (k + 1) = l.take k ++ [x]) : swapN l e keep (k + 1) = swapS e keep (swapN l e keep k) x := by
  unfold swapN; rw [ht, List.foldl_append]; rfl

theorem swapN_len {l : List Entry} {e : Entry} {keep : Bool} : ∀ k, (swapN l e keep k).1.length ≤ 2 * k
  | 0 => by simp [swapN]
  | k + 1 => by
    cases hx : l[k]? with
    | none =>
      have h1 := List.getElem?_eq_none_iff.1 hx
      have : swapN l e keep (k + 1) = swapN l e keep k := by unfold swapN; rw [List.take_of_length_le h1, List.take_of_length_le (by omega)]
      rw [this]
      have := swapN_len (l := l) (e := e) (keep := keep) k; omega
    | some x =>
      have := swapN_len (l := l) (e := e) (keep := keep) k
      rw [swapN_succ e keep (Go.Dl.take_snoc hx)]
      simp only [swapS]
      split <;> split <;> simp <;> omega

theorem swapN_mem {l : List Entry} {e : Entry} {keep : Bool} (k : Nat) (y : Entry) : y ∈ (swapN l e keep k).1 ↔ (y ∈ l.take k ∧ y.id ≠ e.id) ∨ ((swapN l e keep k).2 = true ∧ y = e) := by
  induction k with
  | zero => simp [swapN]
  | succ k ih =>
    cases hx : l[k]? with
    | none =>
      have h1 := List.getElem?_eq_none_iff.1 hx
      have h2 : swapN l e keep (k + 1) = swapN l e keep k := by unfold swapN; rw [List.take_of_length_le h1, List.take_of_length_le (by omega)]
      rw [h2, ih, List.take_of_length_le h1, List.take_of_length_le (by omega)]
    | some x =>
      rw [swapN_succ e keep (Go.Dl.take_snoc hx), Go.Dl.take_snoc hx]
      simp only [swapS]
      by_cases hne : (x.id != e.id) = true
      · have hne' : x.id ≠ e.id := by simpa using hne
        by_cases hc : ((!(swapN l e keep k).2 && keep) && decide (e.id ≤ x.id)) = true
        · simp only [hc, if_true, hne, Bool.or_true]
          simp only [List.mem_append, List.mem_singleton, ih]
          have hk : (swapN l e keep k).2 = false := by simp at hc; exact hc.1.1
          simp only [hk]
          constructor
          · rintro ((h | h) | rfl)
            · rcases h with h | h
              · exact .inl ⟨.inl h.1, h.2⟩
              · simp at h
            · exact .inr ⟨by trivial, h⟩
            · exact .inl ⟨.inr rfl, hne'⟩
          · rintro (⟨h | rfl, h2⟩ | ⟨_, rfl⟩)
            · exact .inl (.inl (.inl ⟨h, h2⟩))
            · exact .inr rfl
            · exact .inl (.inr rfl)
        · have hc' : ((!(swapN l e keep k).2 && keep) && decide (e.id ≤ x.id)) = false := by simpa using hc
          simp only [hc', hne, if_true, Bool.false_eq_true, if_false, Bool.or_false]
          simp only [List.mem_append, List.mem_singleton, ih]
          constructor
          · rintro ((h | h) | rfl)
            · exact .inl ⟨.inl h.1, h.2⟩
            · exact .inr h
            · exact .inl ⟨.inr rfl, hne'⟩
          · rintro (⟨h | rfl, h2⟩ | h)
            · exact .inl (.inl ⟨h, h2⟩)
            · exact .inr rfl
            · exact .inl (.inr h)
      · have hne' : x.id = e.id := by simpa using hne
        rw [if_neg hne]
        by_cases hc : ((!(swapN l e keep k).2 && keep) && decide (e.id ≤ x.id)) = true
        · simp only [hc, if_true, Bool.or_true]
          simp only [List.mem_append, List.mem_singleton, ih]
          have hk : (swapN l e keep k).2 = false := by simp at hc; exact hc.1.1
          simp only [hk]
          constructor
          · rintro (h | h)
            · rcases h with h | h
              · exact .inl ⟨.inl h.1, h.2⟩
              · simp at h
            · exact .inr ⟨by trivial, h⟩
          · rintro (⟨h | rfl, h2⟩ | ⟨_, rfl⟩)
            · exact .inl (.inl ⟨h, h2⟩)
            · exact absurd hne' h2
            · exact .inr rfl
        · have hc' : ((!(swapN l e keep k).2 && keep) && decide (e.id ≤ x.id)) = false := by simpa using hc
          simp only [hc', Bool.false_eq_true, if_false, Bool.or_false, ih]
          simp only [List.mem_append, List.mem_singleton]
          constructor
          · rintro (h | h)
            · exact .inl ⟨.inl h.1, h.2⟩
            · exact .inr h
          · rintro (⟨h | rfl, h2⟩ | h)
            · exact .inl ⟨h, h2⟩
            · exact absurd hne' h2
            · exact .inr h

theorem swapN_keep {l : List Entry} {e : Entry} (k : Nat) : (swapN l e false k).2 = false := by
  unfold swapN
  generalize l.take k = m
  have : ∀ (m : List Entry) (s : List Entry × Bool), s.2 = false → (m.foldl (swapS e false) s).2 = false := fun m => by
    induction m with
    | nil => exact fun s h => h
    | cons x m ih => exact fun s h => ih _ (by simp [swapS, h])
  exact this m _ rfl

theorem swapL_mem {l : List Entry} {e : Entry} {keep : Bool} (y : Entry) : y ∈ swapL l e keep ↔ (y ∈ l ∧ y.id ≠ e.id) ∨ (keep = true ∧ y = e) := by
  have h := swapN_mem (l := l) (e := e) (keep := keep) l.length y
  rw [List.take_length] at h
  unfold swapL
  cases keep with
  | false =>
    simp only [Bool.and_false, Bool.false_eq_true, if_false, h, swapN_keep, false_and]
  | true =>
    cases hs : (swapN l e true l.length).2 with
    | true => simp only [Bool.not_true, Bool.false_and, Bool.false_eq_true, if_false, h, hs]
    | false => simp [h, hs]

theorem swapL_len {l : List Entry} {e : Entry} {keep : Bool} : (swapL l e keep).length ≤ 2 * l.length + 1 := by
  have := swapN_len (l := l) (e := e) (keep := keep) l.length
  unfold swapL
  split
  · simp; omega
  · omega

theorem all_swap {l : List Entry} {e : Entry} {keep : Bool} (g : ByteArray) (p : Part) : All (swapL l e keep) g p ↔ (All l g p ∧ p.entry ≠ e.id) ∨ (keep = true ∧ Of e.id e.senses e.senses.length g p) := by
  unfold All
  constructor
  · rintro ⟨x, hx, ho⟩
    rcases (swapL_mem x).1 hx with ⟨h1, h2⟩ | ⟨h1, rfl⟩
    · exact .inl ⟨⟨x, h1, ho⟩, by rw [Of_entry ho]; exact h2⟩
    · exact .inr ⟨h1, ho⟩
  · rintro (⟨⟨x, hx, ho⟩, h⟩ | ⟨h1, ho⟩)
    · exact ⟨x, (swapL_mem x).2 (.inl ⟨hx, by rw [← Of_entry ho]; exact h⟩), ho⟩
    · exact ⟨e, (swapL_mem e).2 (.inr ⟨h1, rfl⟩), ho⟩

/-- THE PLAIN LAW: an entry in the place of another. -/
theorem follows {l : List Entry} {e : Entry} {keep : Bool} (hd : Distinct l) (h1 : ∀ x ∈ l, 1 ≤ x.id) (he : 1 ≤ e.id) :
    updateR (buildR l) ((getR l e.id).getD zeroE) (if keep = true then e else zeroE) = buildR (swapL l e keep) := by
  refine rows_ext (update_good (buildR_good l) _ _) (buildR_good _) fun g p => ?_
  rw [has_update (buildR_good l), has_buildR, has_buildR, all_swap]
  have hz : ∀ g p, ¬ Full zeroE g p := fun g p h => by have := h.1; simp [zeroE] at this
  have hn : Full (if keep = true then e else zeroE) g p ↔ keep = true ∧ Of e.id e.senses e.senses.length g p := by
    cases keep with
    | true => simp [Full, he]
    | false => simp [hz]
  rw [hn]
  have hold : All l g p ∧ ¬ Full ((getR l e.id).getD zeroE) g p ↔ All l g p ∧ p.entry ≠ e.id := by
    cases hg : getR l e.id with
    | none =>
      have hno : ∀ x ∈ l, x.id ≠ e.id := fun x hx hxe => by
        have := List.find?_eq_none.1 hg x hx
        simp [hxe] at this
      simp only [Option.getD_none, hz, not_false_eq_true, and_true]
      constructor
      · rintro ⟨x, hx, ho⟩; exact ⟨⟨x, hx, ho⟩, by rw [Of_entry ho]; exact hno x hx⟩
      · exact fun h => h.1
    | some x =>
      have hx := List.mem_of_find?_eq_some hg
      have hxe : x.id = e.id := by have := List.find?_some hg; simpa using this
      simp only [Option.getD_some]
      refine and_congr_right fun ⟨y, hy, ho⟩ => ?_
      constructor
      · intro hf hpe
        have hye : y.id = x.id := by rw [hxe, ← hpe, Of_entry ho]
        have : y = x := by
          obtain ⟨i, hi⟩ := List.getElem?_of_mem hy
          obtain ⟨j, hj⟩ := List.getElem?_of_mem hx
          rcases Nat.lt_trichotomy i j with h | h | h
          · have := pw_get hd h hi hj; omega
          · subst h; rw [hi] at hj; injection hj
          · have := pw_get hd h hj hi; omega
        subst this
        exact hf ⟨h1 y hy, ho⟩
      · intro hpe hf
        exact hpe (by rw [Of_entry hf.2, hxe])
  rw [hold]
end Go.Proofs.Ytffcabenoakmgaa

/- Contracts of the laws of reversals (III): swap, Follows. -/
namespace Go.Proofs.Ytffcabenoakmgaa
open Go.Dl
attribute [local irreducible] DW DCalls ECalls wk

--F29
set_option maxRecDepth 10000 in
set_option maxHeartbeats 4000000 in
theorem swap_D (l : List Entry) (e : Entry) (keep : Bool) (hl : l.length ≤ 1000) : DCalls Try.prog 29 [dv (.sl 8 (l.map Entry.enc)), .agg (e.enc.map T.c), dv (lb keep)] (dv (.sl 8 ((swapL l e keep).map Entry.enc))) := by
  refine dcalls (N := 60) (rs := [.tmp 6]) (by kernel_rfl) Try.func29 rfl rfl rfl (by simp) ?_
  (repeat (first | (refine dw_seq ?_) | (refine dw_block ?_) | ((first | (refine dw_reg (N := 60) rfl (by kernel_rfl) ?_) | (apply dw_drw (id := 6) (N := 60) [(0, .light), (1, .light), (2, .light), (3, .light), (4, .light), (5, .light), (6, .light), (7, .light), (8, .light), (9, .light), (10, .light), (11, .light), (12, .light), (13, .light), (14, .light)]; kernel_rfl; rfl; kernel_rfl; (repeat (first | exact Picks.nil | (apply Picks.cons; rfl)))) | (apply dw_drw (id := 9) (N := 60) [(0, .light), (1, .light), (2, .light), (3, .light), (4, .light), (5, .light), (6, .light), (7, .light)]; kernel_rfl; rfl; kernel_rfl; (repeat (first | exact Picks.nil | (apply Picks.cons; rfl)))) | (refine dw_skip ?_) | (refine dw_exit ?_)); simp (decide := true) only [go_sem, reduceIte, reduceCtorEq, Nat.reduceEqDiff, Nat.reduceAdd, Nat.reduceMul, Nat.reduceSub, Nat.reduceLeDiff, Nat.reduceBEq, Entry.enc])))
  refine dw_own 7 7 8 (by simp (decide := true) only [go_sem, reduceIte, reduceCtorEq, Nat.reduceEqDiff, Nat.reduceAdd, Nat.reduceMul, Nat.reduceSub, Nat.reduceLeDiff, Nat.reduceBEq]) ?_
  refine dw_rng l (fun k (_ : Unit) => kn 60 [(0, dv (.sl 8 (l.map Entry.enc))), (2, dv (lb keep)), (4, .one (.bx 4 8 0 0)), (7, .one (.own 7 8 ((swapN l e keep k).1.map Entry.enc))), (8, dv (lb (swapN l e keep k).2)), (11, dv (li l.length)), (12, dv (li k))] (ml [(4, [e.enc.map T.c])])) (fun _ _ => True) () (by simp [maxLen]; omega)
    (sub_ml rfl (by simp (decide := true) only [go_sem, reduceIte, reduceCtorEq, Nat.reduceEqDiff, Nat.reduceAdd, Nat.reduceMul, Nat.reduceSub, Nat.reduceLeDiff, Nat.reduceBEq, swapN, List.foldl_nil]) (by simp (decide := true) only [go_sem, reduceIte, reduceCtorEq, Nat.reduceEqDiff, Nat.reduceAdd, Nat.reduceMul, Nat.reduceSub, Nat.reduceLeDiff, Nat.reduceBEq, Entry.enc])) trivial ?_ ?_
  · intro k x _ hx1 hk hm ht hd hw _
    have hstep := swapN_succ e keep ht
    have hlen := swapN_len (l := l) (e := e) (keep := keep) k
    generalize swapN l e keep k = st at hstep hlen ⊢
    obtain ⟨out, inn⟩ := st
    simp only at hlen
    have hb1 : ((out.length + 1) * 144 ≤ 140737488355328) = True := by simp; omega
    have hb2 : ((out.length + 1 + 1) * 144 ≤ 140737488355328) = True := by simp; omega
    cases inn <;> cases keep <;> ((repeat' (first | (refine dw_seq ?_) | (refine dw_block ?_) | ((first | (refine dw_reg (N := 60) rfl (by kernel_rfl) ?_) | (apply dw_drw (id := 6) (N := 60) [(0, .light), (1, .light), (2, .light), (3, .light), (4, .light), (5, .light), (6, .light), (7, .light), (8, .light), (9, .light), (10, .light), (11, .light), (12, .light), (13, .light), (14, .light)]; kernel_rfl; rfl; kernel_rfl; (repeat (first | exact Picks.nil | (apply Picks.cons; rfl)))) | (apply dw_drw (id := 9) (N := 60) [(0, .light), (1, .light), (2, .light), (3, .light), (4, .light), (5, .light), (6, .light), (7, .light)]; kernel_rfl; rfl; kernel_rfl; (repeat (first | exact Picks.nil | (apply Picks.cons; rfl)))) | (refine dw_skip ?_) | (refine dw_exit ?_)); simp (decide := true) only [go_sem, reduceIte, reduceCtorEq, Nat.reduceEqDiff, Nat.reduceAdd, Nat.reduceMul, Nat.reduceSub, Nat.reduceLeDiff, Nat.reduceBEq, hd, hx1, Entry.enc, hw, hb1, hb2, List.length_append]) | (apply dw_cond; (simp (decide := true) only [go_sem, reduceIte, reduceCtorEq, Nat.reduceEqDiff, Nat.reduceAdd, Nat.reduceMul, Nat.reduceSub, Nat.reduceLeDiff, Nat.reduceBEq, hd, hx1, Entry.enc, hw, hb1, hb2, List.length_append]; rfl); all_goals (intro hcnd; first | (exact absurd hcnd (by decide)) | skip)) | ((first | refine guardC_f ?_ ?_ | refine guardC_t ?_ ?_) <;> (intro hcnd; simp (decide := true) only [go_sem, reduceIte, reduceCtorEq, Nat.reduceEqDiff, Nat.reduceAdd, Nat.reduceMul, Nat.reduceSub, Nat.reduceLeDiff, Nat.reduceBEq, hcnd, hd, hx1, Entry.enc, hw, hb1, hb2, List.length_append])))))
    all_goals exact ⟨(), sub_ml rfl (by simp (decide := true) only [go_sem, reduceIte, reduceCtorEq, Nat.reduceEqDiff, Nat.reduceAdd, Nat.reduceMul, Nat.reduceSub, Nat.reduceLeDiff, Nat.reduceBEq, swapS, Entry.enc, List.map_append, *]) (by simp (decide := true) only [go_sem, reduceIte, reduceCtorEq, Nat.reduceEqDiff, Nat.reduceAdd, Nat.reduceMul, Nat.reduceSub, Nat.reduceLeDiff, Nat.reduceBEq, Entry.enc])⟩
  · intro _ hd _
    have hlen := swapN_len (l := l) (e := e) (keep := keep) l.length
    unfold swapL
    generalize swapN l e keep l.length = st at hlen ⊢
    obtain ⟨out, inn⟩ := st
    simp only at hlen
    have hb1 : ((out.length + 1) * 144 ≤ 140737488355328) = True := by simp; omega
    cases inn <;> cases keep <;> ((repeat' (first | (refine dw_seq ?_) | (refine dw_block ?_) | ((first | (refine dw_reg (N := 60) rfl (by kernel_rfl) ?_) | (apply dw_drw (id := 6) (N := 60) [(0, .light), (1, .light), (2, .light), (3, .light), (4, .light), (5, .light), (6, .light), (7, .light), (8, .light), (9, .light), (10, .light), (11, .light), (12, .light), (13, .light), (14, .light)]; kernel_rfl; rfl; kernel_rfl; (repeat (first | exact Picks.nil | (apply Picks.cons; rfl)))) | (apply dw_drw (id := 9) (N := 60) [(0, .light), (1, .light), (2, .light), (3, .light), (4, .light), (5, .light), (6, .light), (7, .light)]; kernel_rfl; rfl; kernel_rfl; (repeat (first | exact Picks.nil | (apply Picks.cons; rfl)))) | (refine dw_skip ?_) | (refine dw_exit ?_)); simp (decide := true) only [go_sem, reduceIte, reduceCtorEq, Nat.reduceEqDiff, Nat.reduceAdd, Nat.reduceMul, Nat.reduceSub, Nat.reduceLeDiff, Nat.reduceBEq, hd, Entry.enc, hb1]) | (apply dw_cond; (simp (decide := true) only [go_sem, reduceIte, reduceCtorEq, Nat.reduceEqDiff, Nat.reduceAdd, Nat.reduceMul, Nat.reduceSub, Nat.reduceLeDiff, Nat.reduceBEq, hd, Entry.enc, hb1]; rfl); all_goals (intro hcnd; first | (exact absurd hcnd (by decide)) | skip)) | ((first | refine guardC_f ?_ ?_ | refine guardC_t ?_ ?_) <;> (intro hcnd; simp (decide := true) only [go_sem, reduceIte, reduceCtorEq, Nat.reduceEqDiff, Nat.reduceAdd, Nat.reduceMul, Nat.reduceSub, Nat.reduceLeDiff, Nat.reduceBEq, hcnd, hd, Entry.enc, hb1])))))
    all_goals (refine dw_slot 6 (dv (.sl 8 _)) (by simp (decide := true) only [go_sem, reduceIte, reduceCtorEq, Nat.reduceEqDiff, Nat.reduceAdd, Nat.reduceMul, Nat.reduceSub, Nat.reduceLeDiff, Nat.reduceBEq]; exact DLe.own_ 7 8 _) ?_)
    all_goals (refine dw_ret ?_; simp (decide := true) only [go_sem, reduceIte, reduceCtorEq, Nat.reduceEqDiff, Nat.reduceAdd, Nat.reduceMul, Nat.reduceSub, Nat.reduceLeDiff, Nat.reduceBEq])
    all_goals (simp (decide := true) only [go_sem, reduceIte, reduceCtorEq, Nat.reduceEqDiff, Nat.reduceAdd, Nat.reduceMul, Nat.reduceSub, Nat.reduceLeDiff, Nat.reduceBEq, List.map_append, Entry.enc])
end Go.Proofs.Ytffcabenoakmgaa

/- Contracts of the laws of reversals (IV): Follows. -/
namespace Go.Proofs.Ytffcabenoakmgaa
open Go.Dl
attribute [local irreducible] DW DCalls ECalls wk

theorem build_rows {l : List Entry} {c : Nat} (h : ∀ e ∈ l, e.senses.length ≤ c) : RowsOk (c * l.length) (buildR l) := build_okc h l.length

theorem same_refl {rows : List Row} {n : Nat} (h : RowsOk n rows) (hn : n ≤ 1000000) : DCalls Try.prog 14 [dv (.sl 2 (rows.map Row.enc)), dv (.sl 2 (rows.map Row.enc))] (dv (lb true)) := by
  have := same_D rows rows (by have := h.1; omega) (by have := h.1; omega) (fun r hr => by have := h.2 r hr; simp [maxLen]; omega) (fun r hr => by have := h.2 r hr; simp [maxLen]; omega)
  simpa only [decide_true] using this

--F8
set_option maxRecDepth 10000 in
set_option maxHeartbeats 8000000 in
theorem lawFollows (l : List Entry) (e : Entry) (keep : Bool) (hl : l.length ≤ maxLen) : DCalls Try.prog 8 [dv (.sl 8 (l.map Entry.enc)), .agg (e.enc.map T.c), dv (lb keep)] (dv (lb true)) := by
  refine dcalls (N := 54) (rs := [.tmp 6]) (by kernel_rfl) Try.func8 rfl rfl rfl (by simp) ?_
  have k0 := fit28_D l hl
  have k1 := few28_D [e] (by simp [maxLen])
  cases hf : fit28 l with
  | false => (repeat' (first | (refine dw_seq ?_) | (refine dw_block ?_) | ((first | (refine dw_reg (N := 54) rfl (by kernel_rfl) ?_) | (apply dw_drw (id := 7) (N := 54) [(0, .light), (1, .light), (2, .light), (3, .light), (4, .light), (5, .light), (6, .light), (7, .light), (8, .step), (9, .step), (10, .step), (11, .light), (12, .step), (13, .light), (14, .light)]; kernel_rfl; rfl; kernel_rfl; (repeat (first | exact Picks.nil | (apply Picks.cons; rfl)))) | (refine dw_skip ?_) | (refine dw_exit ?_) | (refine CallC.mk (k0) (LeL.of_eq rfl) ?_) | (refine CallC.light (k0) (LeL.of_eq rfl) ?_) | (refine CallC.mk (awake_D) (LeL.of_eq rfl) ?_) | (refine CallC.light (awake_D) (LeL.of_eq rfl) ?_) | (refine dw_ret ?_)); simp (decide := true) only [go_sem, reduceIte, reduceCtorEq, Nat.reduceEqDiff, Nat.reduceAdd, Nat.reduceMul, Nat.reduceSub, Nat.reduceLeDiff, Nat.reduceBEq, hf, Entry.enc]) | (apply dw_cond; (simp (decide := true) only [go_sem, reduceIte, reduceCtorEq, Nat.reduceEqDiff, Nat.reduceAdd, Nat.reduceMul, Nat.reduceSub, Nat.reduceLeDiff, Nat.reduceBEq, hf, Entry.enc]; rfl); all_goals (intro hcnd; first | (exact absurd hcnd (by decide)) | skip)) | ((first | refine guardC_f ?_ ?_ | refine guardC_t ?_ ?_) <;> (intro hcnd; simp (decide := true) only [go_sem, reduceIte, reduceCtorEq, Nat.reduceEqDiff, Nat.reduceAdd, Nat.reduceMul, Nat.reduceSub, Nat.reduceLeDiff, Nat.reduceBEq, hcnd, hf, Entry.enc]))))
  | true =>
    obtain ⟨h1, h2, h3, h4⟩ := fit28_facts hf
    cases hw : few28 [e] with
    | false => (repeat' (first | (refine dw_seq ?_) | (refine dw_block ?_) | ((first | (refine dw_reg (N := 54) rfl (by kernel_rfl) ?_) | (apply dw_drw (id := 7) (N := 54) [(0, .light), (1, .light), (2, .light), (3, .light), (4, .light), (5, .light), (6, .light), (7, .light), (8, .step), (9, .step), (10, .step), (11, .light), (12, .step), (13, .light), (14, .light)]; kernel_rfl; rfl; kernel_rfl; (repeat (first | exact Picks.nil | (apply Picks.cons; rfl)))) | (refine dw_skip ?_) | (refine dw_exit ?_) | (refine CallC.mk (k0) (LeL.of_eq rfl) ?_) | (refine CallC.light (k0) (LeL.of_eq rfl) ?_) | (refine CallC.mk (k1) (LeL.of_eq rfl) ?_) | (refine CallC.light (k1) (LeL.of_eq rfl) ?_) | (refine CallC.mk (awake_D) (LeL.of_eq rfl) ?_) | (refine CallC.light (awake_D) (LeL.of_eq rfl) ?_) | (refine dw_ret ?_)); simp (decide := true) only [go_sem, reduceIte, reduceCtorEq, Nat.reduceEqDiff, Nat.reduceAdd, Nat.reduceMul, Nat.reduceSub, Nat.reduceLeDiff, Nat.reduceBEq, hf, hw, Entry.enc]) | (apply dw_cond; (simp (decide := true) only [go_sem, reduceIte, reduceCtorEq, Nat.reduceEqDiff, Nat.reduceAdd, Nat.reduceMul, Nat.reduceSub, Nat.reduceLeDiff, Nat.reduceBEq, hf, hw, Entry.enc]; rfl); all_goals (intro hcnd; first | (exact absurd hcnd (by decide)) | skip)) | ((first | refine guardC_f ?_ ?_ | refine guardC_t ?_ ?_) <;> (intro hcnd; simp (decide := true) only [go_sem, reduceIte, reduceCtorEq, Nat.reduceEqDiff, Nat.reduceAdd, Nat.reduceMul, Nat.reduceSub, Nat.reduceLeDiff, Nat.reduceBEq, hcnd, hf, hw, Entry.enc]))))
    | true =>
      have he := few1 hw
      have k2 := once_D e (by omega)
      cases ho : onceB e.senses with
      | false => (repeat' (first | (refine dw_seq ?_) | (refine dw_block ?_) | ((first | (refine dw_reg (N := 54) rfl (by kernel_rfl) ?_) | (apply dw_drw (id := 7) (N := 54) [(0, .light), (1, .light), (2, .light), (3, .light), (4, .light), (5, .light), (6, .light), (7, .light), (8, .step), (9, .step), (10, .step), (11, .light), (12, .step), (13, .light), (14, .light)]; kernel_rfl; rfl; kernel_rfl; (repeat (first | exact Picks.nil | (apply Picks.cons; rfl)))) | (refine dw_skip ?_) | (refine dw_exit ?_) | (refine CallC.mk (k0) (LeL.of_eq rfl) ?_) | (refine CallC.light (k0) (LeL.of_eq rfl) ?_) | (refine CallC.mk (k1) (LeL.of_eq rfl) ?_) | (refine CallC.light (k1) (LeL.of_eq rfl) ?_) | (refine CallC.mk (k2) (LeL.of_eq rfl) ?_) | (refine CallC.light (k2) (LeL.of_eq rfl) ?_) | (refine CallC.mk (awake_D) (LeL.of_eq rfl) ?_) | (refine CallC.light (awake_D) (LeL.of_eq rfl) ?_) | (refine dw_ret ?_)); simp (decide := true) only [go_sem, reduceIte, reduceCtorEq, Nat.reduceEqDiff, Nat.reduceAdd, Nat.reduceMul, Nat.reduceSub, Nat.reduceLeDiff, Nat.reduceBEq, hf, hw, ho, Entry.enc]) | (apply dw_cond; (simp (decide := true) only [go_sem, reduceIte, reduceCtorEq, Nat.reduceEqDiff, Nat.reduceAdd, Nat.reduceMul, Nat.reduceSub, Nat.reduceLeDiff, Nat.reduceBEq, hf, hw, ho, Entry.enc]; rfl); all_goals (intro hcnd; first | (exact absurd hcnd (by decide)) | skip)) | ((first | refine guardC_f ?_ ?_ | refine guardC_t ?_ ?_) <;> (intro hcnd; simp (decide := true) only [go_sem, reduceIte, reduceCtorEq, Nat.reduceEqDiff, Nat.reduceAdd, Nat.reduceMul, Nat.reduceSub, Nat.reduceLeDiff, Nat.reduceBEq, hcnd, hf, hw, ho, Entry.enc]))))
      | true =>
        cases hi : decide (e.id < 1) with
        | true => (repeat' (first | (refine dw_seq ?_) | (refine dw_block ?_) | ((first | (refine dw_reg (N := 54) rfl (by kernel_rfl) ?_) | (apply dw_drw (id := 7) (N := 54) [(0, .light), (1, .light), (2, .light), (3, .light), (4, .light), (5, .light), (6, .light), (7, .light), (8, .step), (9, .step), (10, .step), (11, .light), (12, .step), (13, .light), (14, .light)]; kernel_rfl; rfl; kernel_rfl; (repeat (first | exact Picks.nil | (apply Picks.cons; rfl)))) | (refine dw_skip ?_) | (refine dw_exit ?_) | (refine CallC.mk (k0) (LeL.of_eq rfl) ?_) | (refine CallC.light (k0) (LeL.of_eq rfl) ?_) | (refine CallC.mk (k1) (LeL.of_eq rfl) ?_) | (refine CallC.light (k1) (LeL.of_eq rfl) ?_) | (refine CallC.mk (k2) (LeL.of_eq rfl) ?_) | (refine CallC.light (k2) (LeL.of_eq rfl) ?_) | (refine CallC.mk (awake_D) (LeL.of_eq rfl) ?_) | (refine CallC.light (awake_D) (LeL.of_eq rfl) ?_) | (refine dw_ret ?_)); simp (decide := true) only [go_sem, reduceIte, reduceCtorEq, Nat.reduceEqDiff, Nat.reduceAdd, Nat.reduceMul, Nat.reduceSub, Nat.reduceLeDiff, Nat.reduceBEq, hf, hw, ho, hi, Entry.enc]) | (apply dw_cond; (simp (decide := true) only [go_sem, reduceIte, reduceCtorEq, Nat.reduceEqDiff, Nat.reduceAdd, Nat.reduceMul, Nat.reduceSub, Nat.reduceLeDiff, Nat.reduceBEq, hf, hw, ho, hi, Entry.enc]; rfl); all_goals (intro hcnd; first | (exact absurd hcnd (by decide)) | skip)) | ((first | refine guardC_f ?_ ?_ | refine guardC_t ?_ ?_) <;> (intro hcnd; simp (decide := true) only [go_sem, reduceIte, reduceCtorEq, Nat.reduceEqDiff, Nat.reduceAdd, Nat.reduceMul, Nat.reduceSub, Nat.reduceLeDiff, Nat.reduceBEq, hcnd, hf, hw, ho, hi, Entry.enc]))))
        | false =>
          have hi' : 1 ≤ e.id := by simp at hi; omega
          have kg := get25_D l e.id hl
          have hfol := follows (keep := keep) h3 h4 hi'
          have hold : ((getR l e.id).getD zeroE).senses.length ≤ 10 := by
            cases hg : getR l e.id with
            | none => simp [zeroE]
            | some x => exact h2 x (List.mem_of_find?_eq_some hg)
          generalize (getR l e.id).getD zeroE = old at kg hfol hold
          generalize (getR l e.id).isSome = there at kg
          have hb := build_rows h2
          have kb := buildP_D l (by omega) (fun x hx => by have := h2 x hx; omega)
          have ks := swap_D l e keep (by omega)
          have hsl := swapL_len (l := l) (e := e) (keep := keep)
          have hsm : ∀ x ∈ swapL l e keep, x.senses.length ≤ 10 := fun x hx => by
            rcases (swapL_mem x).1 hx with h | h
            · exact h2 x h.1
            · rw [h.2]; exact he
          have kc := buildP_D (swapL l e keep) (by omega) (fun x hx => by have := hsm x hx; omega)
          have kq := same_refl (build_rows hsm) (by omega)
          have hg := buildR_good l
          have hb2 : RowsOk 2500 (buildR l) := hb.mono (by omega)
          cases keep with
          | true =>
            have ku := updateP_D (buildR l) old e hb2 hg (by omega) (by omega)
            rw [if_pos rfl] at hfol
            rw [hfol] at ku
            (repeat' (first | (refine dw_seq ?_) | (refine dw_block ?_) | ((first | (refine dw_reg (N := 54) rfl (by kernel_rfl) ?_) | (apply dw_drw (id := 7) (N := 54) [(0, .light), (1, .light), (2, .light), (3, .light), (4, .light), (5, .light), (6, .light), (7, .light), (8, .step), (9, .step), (10, .step), (11, .light), (12, .step), (13, .light), (14, .light)]; kernel_rfl; rfl; kernel_rfl; (repeat (first | exact Picks.nil | (apply Picks.cons; rfl)))) | (refine dw_skip ?_) | (refine dw_exit ?_) | (refine CallC.mk (k0) (LeL.of_eq rfl) ?_) | (refine CallC.light (k0) (LeL.of_eq rfl) ?_) | (refine CallC.mk (k1) (LeL.of_eq rfl) ?_) | (refine CallC.light (k1) (LeL.of_eq rfl) ?_) | (refine CallC.mk (k2) (LeL.of_eq rfl) ?_) | (refine CallC.light (k2) (LeL.of_eq rfl) ?_) | (refine CallC.mk (kg) (LeL.of_eq rfl) ?_) | (refine CallC.light (kg) (LeL.of_eq rfl) ?_) | (refine CallC.mk (kb) (LeL.of_eq rfl) ?_) | (refine CallC.light (kb) (LeL.of_eq rfl) ?_) | (refine CallC.mk (ku) (LeL.of_eq rfl) ?_) | (refine CallC.light (ku) (LeL.of_eq rfl) ?_) | (refine CallC.mk (ks) (LeL.of_eq rfl) ?_) | (refine CallC.light (ks) (LeL.of_eq rfl) ?_) | (refine CallC.mk (kc) (LeL.of_eq rfl) ?_) | (refine CallC.light (kc) (LeL.of_eq rfl) ?_) | (refine CallC.mk (kq) (LeL.of_eq rfl) ?_) | (refine CallC.light (kq) (LeL.of_eq rfl) ?_) | (refine CallC.mk (awake_D) (LeL.of_eq rfl) ?_) | (refine CallC.light (awake_D) (LeL.of_eq rfl) ?_) | (refine dw_ret ?_)); simp (decide := true) only [go_sem, reduceIte, reduceCtorEq, Nat.reduceEqDiff, Nat.reduceAdd, Nat.reduceMul, Nat.reduceSub, Nat.reduceLeDiff, Nat.reduceBEq, hf, hw, ho, hi, Entry.enc]) | (apply dw_cond; (simp (decide := true) only [go_sem, reduceIte, reduceCtorEq, Nat.reduceEqDiff, Nat.reduceAdd, Nat.reduceMul, Nat.reduceSub, Nat.reduceLeDiff, Nat.reduceBEq, hf, hw, ho, hi, Entry.enc]; rfl); all_goals (intro hcnd; first | (exact absurd hcnd (by decide)) | skip)) | ((first | refine guardC_f ?_ ?_ | refine guardC_t ?_ ?_) <;> (intro hcnd; simp (decide := true) only [go_sem, reduceIte, reduceCtorEq, Nat.reduceEqDiff, Nat.reduceAdd, Nat.reduceMul, Nat.reduceSub, Nat.reduceLeDiff, Nat.reduceBEq, hcnd, hf, hw, ho, hi, Entry.enc]))))
          | false =>
            have ku := updateP_D (buildR l) old zeroE hb2 hg (by omega) (by simp [zeroE])
            rw [if_neg (by simp)] at hfol
            rw [hfol] at ku
            (repeat' (first | (refine dw_seq ?_) | (refine dw_block ?_) | ((first | (refine dw_reg (N := 54) rfl (by kernel_rfl) ?_) | (apply dw_drw (id := 7) (N := 54) [(0, .light), (1, .light), (2, .light), (3, .light), (4, .light), (5, .light), (6, .light), (7, .light), (8, .step), (9, .step), (10, .step), (11, .light), (12, .step), (13, .light), (14, .light)]; kernel_rfl; rfl; kernel_rfl; (repeat (first | exact Picks.nil | (apply Picks.cons; rfl)))) | (refine dw_skip ?_) | (refine dw_exit ?_) | (refine CallC.mk (k0) (LeL.of_eq rfl) ?_) | (refine CallC.light (k0) (LeL.of_eq rfl) ?_) | (refine CallC.mk (k1) (LeL.of_eq rfl) ?_) | (refine CallC.light (k1) (LeL.of_eq rfl) ?_) | (refine CallC.mk (k2) (LeL.of_eq rfl) ?_) | (refine CallC.light (k2) (LeL.of_eq rfl) ?_) | (refine CallC.mk (kg) (LeL.of_eq rfl) ?_) | (refine CallC.light (kg) (LeL.of_eq rfl) ?_) | (refine CallC.mk (kb) (LeL.of_eq rfl) ?_) | (refine CallC.light (kb) (LeL.of_eq rfl) ?_) | (refine CallC.mk (ku) (LeL.of_eq rfl) ?_) | (refine CallC.light (ku) (LeL.of_eq rfl) ?_) | (refine CallC.mk (ks) (LeL.of_eq rfl) ?_) | (refine CallC.light (ks) (LeL.of_eq rfl) ?_) | (refine CallC.mk (kc) (LeL.of_eq rfl) ?_) | (refine CallC.light (kc) (LeL.of_eq rfl) ?_) | (refine CallC.mk (kq) (LeL.of_eq rfl) ?_) | (refine CallC.light (kq) (LeL.of_eq rfl) ?_) | (refine CallC.mk (awake_D) (LeL.of_eq rfl) ?_) | (refine CallC.light (awake_D) (LeL.of_eq rfl) ?_) | (refine dw_ret ?_)); simp (decide := true) only [go_sem, reduceIte, reduceCtorEq, Nat.reduceEqDiff, Nat.reduceAdd, Nat.reduceMul, Nat.reduceSub, Nat.reduceLeDiff, Nat.reduceBEq, hf, hw, ho, hi, Entry.enc]) | (apply dw_cond; (simp (decide := true) only [go_sem, reduceIte, reduceCtorEq, Nat.reduceEqDiff, Nat.reduceAdd, Nat.reduceMul, Nat.reduceSub, Nat.reduceLeDiff, Nat.reduceBEq, hf, hw, ho, hi, Entry.enc]; rfl); all_goals (intro hcnd; first | (exact absurd hcnd (by decide)) | skip)) | ((first | refine guardC_f ?_ ?_ | refine guardC_t ?_ ?_) <;> (intro hcnd; simp (decide := true) only [go_sem, reduceIte, reduceCtorEq, Nat.reduceEqDiff, Nat.reduceAdd, Nat.reduceMul, Nat.reduceSub, Nat.reduceLeDiff, Nat.reduceBEq, hcnd, hf, hw, ho, hi, Entry.enc]))))
end Go.Proofs.Ytffcabenoakmgaa

/- Contracts of the laws of reversals (V): Once. -/
namespace Go.Proofs.Ytffcabenoakmgaa
open Go.Dl
attribute [local irreducible] DW DCalls ECalls wk

theorem psorted_nodup {ps : List Part} (h : PSorted ps) : ps.Nodup := h.pw.imp fun hab e => by subst e; rw [Part.lt_irrefl] at hab; cases hab

theorem count_one {ps : List Part} (h : PSorted ps) {p : Part} (hp : p ∈ ps) : ps.count p = 1 := by
  rw [(psorted_nodup h).count, if_pos hp]

theorem find_row {l : List Row} (h : RGood l) {g : ByteArray} {p : Part} (hp : Has l g p) : ∃ r ∈ l, r.gloss = g ∧ findR l g = r.senses ∧ p ∈ r.senses := by
  obtain ⟨r, hr, rfl, hps⟩ := hp
  refine ⟨r, hr, rfl, ?_, hps⟩
  obtain ⟨i, hi⟩ := List.getElem?_of_mem hr
  have hil := (List.getElem?_eq_some_iff.1 hi).1
  have h1 : ∀ j < i, findAt l r.gloss j = none := fun j hj => by
    obtain ⟨q, hq⟩ : ∃ q, l[j]? = some q := ⟨l[j]'(by omega), List.getElem?_eq_getElem (by omega)⟩
    have hlt := pw_get h.pw hj hq hi
    have : (q.gloss == r.gloss) = false := by
      rw [beq_bytes]; simp only [decide_eq_false_iff_not]
      intro e; rw [e, strLt_irrefl] at hlt; cases hlt
    simp [findAt, hq, this]
  have h2 : findAt l r.gloss i = some r.senses := by simp [findAt, hi, beq_bytes]
  unfold findR
  rw [fs_some h1 hil h2]; rfl

theorem build_nums {l : List Entry} (h : ∀ e ∈ l, 1 ≤ e.id) : Nums (buildR l) := fun r hr p hp => by
  obtain ⟨e, he, k, s, _, _, _, rfl⟩ := (has_buildR l r.gloss p).1 ⟨r, hr, rfl, hp⟩
  exact ⟨h e he, by simp⟩

theorem build_check {l : List Entry} (h : ∀ e ∈ l, 1 ≤ e.id) : checkR (buildR l) = 0 := (check_iff _).2 ⟨buildR_good l, build_nums h⟩

def sumL (l : List Entry) : Nat := (l.map fun e => e.senses.length).sum
theorem sumL_snoc (a : List Entry) (x : Entry) : sumL (a ++ [x]) = sumL a + x.senses.length := by simp [sumL]
theorem sumL_le {l : List Entry} {c : Nat} (h : ∀ e ∈ l, e.senses.length ≤ c) : sumL l ≤ c * l.length := by
  induction l with
  | nil => simp [sumL]
  | cons a l ih =>
    have h1 := h a (by simp)
    have h2 := ih fun e he => h e (by simp [he])
    simp only [sumL, List.map_cons, List.sum_cons, List.length_cons] at h2 ⊢
    rw [Nat.mul_add]; omega

theorem total_take {rows : List Row} {k : Nat} : total (rows.take k) ≤ total rows := by
  conv => rhs; rw [← List.take_append_drop k rows]
  rw [total_app]; omega
theorem sumL_take {l : List Entry} {k : Nat} : sumL (l.take k) ≤ sumL l := by
  conv => rhs; rw [← List.take_append_drop k l]
  unfold sumL
  rw [List.map_append, List.sum_append]; omega
theorem total_snoc (a : List Row) (r : Row) : total (a ++ [r]) = total a + r.senses.length := by simp [total]

theorem total_buildR {l : List Entry} (h : Distinct l) : total (buildR l) = sumL l := by
  have := total_build h l.length (Nat.le_refl _)
  rw [List.take_length] at this
  exact this

theorem wrap_small {n : Int} (h : -1000000 ≤ n) (h2 : n ≤ 1000000) : IntKind.i64.wrap n = n := wrap_i64 (by omega) (by omega)

--F9
set_option maxRecDepth 10000 in
set_option maxHeartbeats 8000000 in
theorem lawOnce (l : List Entry) (hl : l.length ≤ maxLen) : DCalls Try.prog 9 [dv (.sl 8 (l.map Entry.enc))] (dv (lb true)) := by
  refine dcalls (N := 96) (rs := [.tmp 2]) (by kernel_rfl) Try.func9 rfl rfl rfl (by simp) ?_
  have k0 := fit28_D l hl
  cases hf : fit28 l with
  | false => (repeat' (first | (refine dw_seq ?_) | (refine dw_block ?_) | ((first | (refine dw_reg (N := 96) rfl (by kernel_rfl) ?_) | (apply dw_drw (id := 24) (N := 96) [(0, .light), (1, .light), (2, .light), (3, .light), (4, .light), (5, .light), (6, .light), (7, .light), (8, .light), (9, .light), (10, .light), (11, .light)]; kernel_rfl; rfl; kernel_rfl; (repeat (first | exact Picks.nil | (apply Picks.cons; rfl)))) | (refine dw_skip ?_) | (refine dw_exit ?_) | (refine CallC.mk (k0) (LeL.of_eq rfl) ?_) | (refine CallC.light (k0) (LeL.of_eq rfl) ?_) | (refine CallC.mk (awake_D) (LeL.of_eq rfl) ?_) | (refine CallC.light (awake_D) (LeL.of_eq rfl) ?_) | (refine dw_ret ?_)); simp (decide := true) only [go_sem, reduceIte, reduceCtorEq, Nat.reduceEqDiff, Nat.reduceAdd, Nat.reduceMul, Nat.reduceSub, Nat.reduceLeDiff, Nat.reduceBEq, hf]) | (apply dw_cond; (simp (decide := true) only [go_sem, reduceIte, reduceCtorEq, Nat.reduceEqDiff, Nat.reduceAdd, Nat.reduceMul, Nat.reduceSub, Nat.reduceLeDiff, Nat.reduceBEq, hf]; rfl); all_goals (intro hcnd; first | (exact absurd hcnd (by decide)) | skip)) | ((first | refine guardC_f ?_ ?_ | refine guardC_t ?_ ?_) <;> (intro hcnd; simp (decide := true) only [go_sem, reduceIte, reduceCtorEq, Nat.reduceEqDiff, Nat.reduceAdd, Nat.reduceMul, Nat.reduceSub, Nat.reduceLeDiff, Nat.reduceBEq, hcnd, hf]))))
  | true =>
    obtain ⟨h1, h2, h3, h4⟩ := fit28_facts hf
    have kb := buildP_D l (by omega) (fun x hx => by have := h2 x hx; omega)
    have hrow := build_rows h2
    have hg := buildR_good l
    have htot := total_buildR h3
    have hhas := has_buildR l
    have kc := checkP_D (buildR l) (by have := hrow.1; omega) (fun r hr => by have := hrow.2 r hr; omega)
    rw [build_check h4] at kc
    have kf := fun g => findP_D (buildR l) g (by have := hrow.1; omega)
    have hsum := sumL_le h2
    generalize buildR l = rows at kb hrow hg htot hhas kc kf
    have hrl := hrow.1
    (repeat' (first | (refine dw_seq ?_) | (refine dw_block ?_) | ((first | (refine dw_reg (N := 96) rfl (by kernel_rfl) ?_) | (apply dw_drw (id := 24) (N := 96) [(0, .light), (1, .light), (2, .light), (3, .light), (4, .light), (5, .light), (6, .light), (7, .light), (8, .light), (9, .light), (10, .light), (11, .light)]; kernel_rfl; rfl; kernel_rfl; (repeat (first | exact Picks.nil | (apply Picks.cons; rfl)))) | (refine dw_skip ?_) | (refine dw_exit ?_) | (refine CallC.mk (k0) (LeL.of_eq rfl) ?_) | (refine CallC.light (k0) (LeL.of_eq rfl) ?_) | (refine CallC.mk (kb) (LeL.of_eq rfl) ?_) | (refine CallC.light (kb) (LeL.of_eq rfl) ?_) | (refine CallC.mk (kc) (LeL.of_eq rfl) ?_) | (refine CallC.light (kc) (LeL.of_eq rfl) ?_)); simp (decide := true) only [go_sem, reduceIte, reduceCtorEq, Nat.reduceEqDiff, Nat.reduceAdd, Nat.reduceMul, Nat.reduceSub, Nat.reduceLeDiff, Nat.reduceBEq, hf]) | (apply dw_cond; (simp (decide := true) only [go_sem, reduceIte, reduceCtorEq, Nat.reduceEqDiff, Nat.reduceAdd, Nat.reduceMul, Nat.reduceSub, Nat.reduceLeDiff, Nat.reduceBEq, hf]; rfl); all_goals (intro hcnd; first | (exact absurd hcnd (by decide)) | skip)) | ((first | refine guardC_f ?_ ?_ | refine guardC_t ?_ ?_) <;> (intro hcnd; simp (decide := true) only [go_sem, reduceIte, reduceCtorEq, Nat.reduceEqDiff, Nat.reduceAdd, Nat.reduceMul, Nat.reduceSub, Nat.reduceLeDiff, Nat.reduceBEq, hcnd, hf]))))
    refine dw_rng rows (fun k (_ : Unit) => kn 96 [(0, dv (.sl 8 (l.map Entry.enc))), (3, dv (.sl 2 (rows.map Row.enc))), (4, dv (li (total (rows.take k)))), (21, dv (li rows.length)), (22, dv (li k))] noMem) (fun _ _ => True) () (by simp [maxLen]; omega) (sub_kn rfl (by simp (decide := true) only [go_sem, reduceIte, reduceCtorEq, Nat.reduceEqDiff, Nat.reduceAdd, Nat.reduceMul, Nat.reduceSub, Nat.reduceLeDiff, Nat.reduceBEq, total, List.sum_nil]) (by simp [noMem])) trivial ?_ ?_
    · intro k r _ hr1 hk hm ht hd hw _
      have hle := total_take (rows := rows) (k := k + 1)
      have hw2 : IntKind.i64.wrap ((total (rows.take k) : Int) + (r.senses.length : Int)) = (total (rows.take (k + 1)) : Int) := by
        rw [ht, total_snoc] at hle ⊢
        rw [wrap_small (by omega) (by omega)]; simp
      (repeat' (first | (refine dw_seq ?_) | (refine dw_block ?_) | ((first | (refine dw_reg (N := 96) rfl (by kernel_rfl) ?_) | (apply dw_drw (id := 24) (N := 96) [(0, .light), (1, .light), (2, .light), (3, .light), (4, .light), (5, .light), (6, .light), (7, .light), (8, .light), (9, .light), (10, .light), (11, .light)]; kernel_rfl; rfl; kernel_rfl; (repeat (first | exact Picks.nil | (apply Picks.cons; rfl)))) | (refine dw_skip ?_) | (refine dw_exit ?_)); simp (decide := true) only [go_sem, reduceIte, reduceCtorEq, Nat.reduceEqDiff, Nat.reduceAdd, Nat.reduceMul, Nat.reduceSub, Nat.reduceLeDiff, Nat.reduceBEq, hd, hr1, Row.enc, hw, hw2]) | (apply dw_cond; (simp (decide := true) only [go_sem, reduceIte, reduceCtorEq, Nat.reduceEqDiff, Nat.reduceAdd, Nat.reduceMul, Nat.reduceSub, Nat.reduceLeDiff, Nat.reduceBEq, hd, hr1, Row.enc, hw, hw2]; rfl); all_goals (intro hcnd; first | (exact absurd hcnd (by decide)) | skip)) | ((first | refine guardC_f ?_ ?_ | refine guardC_t ?_ ?_) <;> (intro hcnd; simp (decide := true) only [go_sem, reduceIte, reduceCtorEq, Nat.reduceEqDiff, Nat.reduceAdd, Nat.reduceMul, Nat.reduceSub, Nat.reduceLeDiff, Nat.reduceBEq, hcnd, hd, hr1, Row.enc, hw, hw2]))))
      exact ⟨(), sub_kn rfl (by simp (decide := true) only [go_sem, reduceIte, reduceCtorEq, Nat.reduceEqDiff, Nat.reduceAdd, Nat.reduceMul, Nat.reduceSub, Nat.reduceLeDiff, Nat.reduceBEq]) (by simp [noMem])⟩
    · intro _ hd _
      rw [List.take_length]
      (repeat' (first | (refine dw_seq ?_) | (refine dw_block ?_) | ((first | (refine dw_reg (N := 96) rfl (by kernel_rfl) ?_) | (apply dw_drw (id := 24) (N := 96) [(0, .light), (1, .light), (2, .light), (3, .light), (4, .light), (5, .light), (6, .light), (7, .light), (8, .light), (9, .light), (10, .light), (11, .light)]; kernel_rfl; rfl; kernel_rfl; (repeat (first | exact Picks.nil | (apply Picks.cons; rfl)))) | (refine dw_skip ?_) | (refine dw_exit ?_)); simp (decide := true) only [go_sem, reduceIte, reduceCtorEq, Nat.reduceEqDiff, Nat.reduceAdd, Nat.reduceMul, Nat.reduceSub, Nat.reduceLeDiff, Nat.reduceBEq, hd]) | (apply dw_cond; (simp (decide := true) only [go_sem, reduceIte, reduceCtorEq, Nat.reduceEqDiff, Nat.reduceAdd, Nat.reduceMul, Nat.reduceSub, Nat.reduceLeDiff, Nat.reduceBEq, hd]; rfl); all_goals (intro hcnd; first | (exact absurd hcnd (by decide)) | skip)) | ((first | refine guardC_f ?_ ?_ | refine guardC_t ?_ ?_) <;> (intro hcnd; simp (decide := true) only [go_sem, reduceIte, reduceCtorEq, Nat.reduceEqDiff, Nat.reduceAdd, Nat.reduceMul, Nat.reduceSub, Nat.reduceLeDiff, Nat.reduceBEq, hcnd, hd]))))
      refine dw_rng l (fun k (_ : Unit) => kn 96 [(0, dv (.sl 8 (l.map Entry.enc))), (3, dv (.sl 2 (rows.map Row.enc))), (4, dv (li ((total rows : Int) - (sumL (l.take k) : Int)))), (35, dv (li l.length)), (36, dv (li k))] noMem) (fun _ _ => True) () hl (sub_kn rfl (by simp (decide := true) only [go_sem, reduceIte, reduceCtorEq, Nat.reduceEqDiff, Nat.reduceAdd, Nat.reduceMul, Nat.reduceSub, Nat.reduceLeDiff, Nat.reduceBEq, sumL, List.sum_nil, Int.sub_zero]) (by simp [noMem])) trivial ?_ ?_
      · intro k x _ hx1 hk hm ht hd hw _
        have hle := sumL_take (l := l) (k := k + 1)
        have hxs := h2 x hm
        have hw2 : IntKind.i64.wrap (((total rows : Int) - (sumL (l.take k) : Int)) - (x.senses.length : Int)) = (total rows : Int) - (sumL (l.take (k + 1)) : Int) := by
          rw [ht, sumL_snoc] at hle ⊢
          rw [wrap_small (by omega) (by omega)]; omega
        (repeat' (first | (refine dw_seq ?_) | (refine dw_block ?_) | ((first | (refine dw_reg (N := 96) rfl (by kernel_rfl) ?_) | (apply dw_drw (id := 24) (N := 96) [(0, .light), (1, .light), (2, .light), (3, .light), (4, .light), (5, .light), (6, .light), (7, .light), (8, .light), (9, .light), (10, .light), (11, .light)]; kernel_rfl; rfl; kernel_rfl; (repeat (first | exact Picks.nil | (apply Picks.cons; rfl)))) | (refine dw_skip ?_) | (refine dw_exit ?_)); simp (decide := true) only [go_sem, reduceIte, reduceCtorEq, Nat.reduceEqDiff, Nat.reduceAdd, Nat.reduceMul, Nat.reduceSub, Nat.reduceLeDiff, Nat.reduceBEq, hd, hx1, Entry.enc, hw2]) | (apply dw_cond; (simp (decide := true) only [go_sem, reduceIte, reduceCtorEq, Nat.reduceEqDiff, Nat.reduceAdd, Nat.reduceMul, Nat.reduceSub, Nat.reduceLeDiff, Nat.reduceBEq, hd, hx1, Entry.enc, hw2]; rfl); all_goals (intro hcnd; first | (exact absurd hcnd (by decide)) | skip)) | ((first | refine guardC_f ?_ ?_ | refine guardC_t ?_ ?_) <;> (intro hcnd; simp (decide := true) only [go_sem, reduceIte, reduceCtorEq, Nat.reduceEqDiff, Nat.reduceAdd, Nat.reduceMul, Nat.reduceSub, Nat.reduceLeDiff, Nat.reduceBEq, hcnd, hd, hx1, Entry.enc, hw2]))))
        refine dw_rng x.senses (fun j (_ : Unit) => kn 96 [(0, dv (.sl 8 (l.map Entry.enc))), (3, dv (.sl 2 (rows.map Row.enc))), (4, dv (li ((total rows : Int) - (sumL (l.take (k + 1)) : Int)))), (6, dv (li k)), (35, dv (li l.length)), (36, dv (li k)), (52, dv (li x.senses.length)), (53, dv (li j))] noMem) (fun _ _ => True) () (by simp [maxLen]; omega) (sub_kn rfl (by simp (decide := true) only [go_sem, reduceIte, reduceCtorEq, Nat.reduceEqDiff, Nat.reduceAdd, Nat.reduceMul, Nat.reduceSub, Nat.reduceLeDiff, Nat.reduceBEq]) (by simp [noMem])) trivial ?_ ?_
        · intro j s _ hs1 hj hjm hjt hjd hjw _
          have hin : Has rows s.gloss (pt x.id j) := (hhas _ _).2 ⟨x, hm, j, s, hj, hs1, rfl, rfl⟩
          obtain ⟨r, hrm, _, hfr, hpr⟩ := find_row hg hin
          have hcnt := count_one (hg.each r hrm) hpr
          have hps := hrow.2 r hrm
          have kf1 := kf s.gloss
          rw [hfr] at kf1
          (repeat' (first | (refine dw_seq ?_) | (refine dw_block ?_) | ((first | (refine dw_reg (N := 96) rfl (by kernel_rfl) ?_) | (apply dw_drw (id := 24) (N := 96) [(0, .light), (1, .light), (2, .light), (3, .light), (4, .light), (5, .light), (6, .light), (7, .light), (8, .light), (9, .light), (10, .light), (11, .light)]; kernel_rfl; rfl; kernel_rfl; (repeat (first | exact Picks.nil | (apply Picks.cons; rfl)))) | (refine dw_skip ?_) | (refine dw_exit ?_) | (refine CallC.mk (kf1) (LeL.of_eq rfl) ?_) | (refine CallC.light (kf1) (LeL.of_eq rfl) ?_)); simp (decide := true) only [go_sem, reduceIte, reduceCtorEq, Nat.reduceEqDiff, Nat.reduceAdd, Nat.reduceMul, Nat.reduceSub, Nat.reduceLeDiff, Nat.reduceBEq, hjd, hx1, hs1, Entry.enc, Sense.enc]) | (apply dw_cond; (simp (decide := true) only [go_sem, reduceIte, reduceCtorEq, Nat.reduceEqDiff, Nat.reduceAdd, Nat.reduceMul, Nat.reduceSub, Nat.reduceLeDiff, Nat.reduceBEq, hjd, hx1, hs1, Entry.enc, Sense.enc]; rfl); all_goals (intro hcnd; first | (exact absurd hcnd (by decide)) | skip)) | ((first | refine guardC_f ?_ ?_ | refine guardC_t ?_ ?_) <;> (intro hcnd; simp (decide := true) only [go_sem, reduceIte, reduceCtorEq, Nat.reduceEqDiff, Nat.reduceAdd, Nat.reduceMul, Nat.reduceSub, Nat.reduceLeDiff, Nat.reduceBEq, hcnd, hjd, hx1, hs1, Entry.enc, Sense.enc]))))
          refine dw_rng r.senses (fun m (_ : Unit) => kn 96 [(0, dv (.sl 8 (l.map Entry.enc))), (3, dv (.sl 2 (rows.map Row.enc))), (4, dv (li ((total rows : Int) - (sumL (l.take (k + 1)) : Int)))), (6, dv (li k)), (7, dv (li j)), (8, dv (li ((r.senses.take m).count (pt x.id j)))), (9, dv (.sl 3 (r.senses.map Part.enc))), (35, dv (li l.length)), (36, dv (li k)), (52, dv (li x.senses.length)), (53, dv (li j)), (68, dv (li r.senses.length)), (69, dv (li m))] noMem) (fun _ _ => True) () (by simp [maxLen]; omega) (sub_kn rfl (by simp (decide := true) only [go_sem, reduceIte, reduceCtorEq, Nat.reduceEqDiff, Nat.reduceAdd, Nat.reduceMul, Nat.reduceSub, Nat.reduceLeDiff, Nat.reduceBEq, List.count_nil]) (by simp [noMem])) trivial ?_ ?_
          · intro m y _ hy1 hmk hmm hmt hmd hmw _
            have hcle : (r.senses.take m).count (pt x.id j) ≤ m := Nat.le_trans List.count_le_length (by simp; omega)
            have hw3 : IntKind.i64.wrap (((r.senses.take m).count (pt x.id j) : Int) + 1) = (((r.senses.take m).count (pt x.id j) + 1 : Nat) : Int) := wrap_succ _ (by simp [maxLen]; omega)
            (repeat' (first | (refine dw_seq ?_) | (refine dw_block ?_) | ((first | (refine dw_reg (N := 96) rfl (by kernel_rfl) ?_) | (apply dw_drw (id := 24) (N := 96) [(0, .light), (1, .light), (2, .light), (3, .light), (4, .light), (5, .light), (6, .light), (7, .light), (8, .light), (9, .light), (10, .light), (11, .light)]; kernel_rfl; rfl; kernel_rfl; (repeat (first | exact Picks.nil | (apply Picks.cons; rfl)))) | (refine dw_skip ?_) | (refine dw_exit ?_)); simp (decide := true) only [go_sem, reduceIte, reduceCtorEq, Nat.reduceEqDiff, Nat.reduceAdd, Nat.reduceMul, Nat.reduceSub, Nat.reduceLeDiff, Nat.reduceBEq, hmd, hx1, hy1, Entry.enc, Part.enc, hmw, hw3]) | (apply dw_cond; (simp (decide := true) only [go_sem, reduceIte, reduceCtorEq, Nat.reduceEqDiff, Nat.reduceAdd, Nat.reduceMul, Nat.reduceSub, Nat.reduceLeDiff, Nat.reduceBEq, hmd, hx1, hy1, Entry.enc, Part.enc, hmw, hw3]; rfl); all_goals (intro hcnd; first | (exact absurd hcnd (by decide)) | skip)) | ((first | refine guardC_f ?_ ?_ | refine guardC_t ?_ ?_) <;> (intro hcnd; simp (decide := true) only [go_sem, reduceIte, reduceCtorEq, Nat.reduceEqDiff, Nat.reduceAdd, Nat.reduceMul, Nat.reduceSub, Nat.reduceLeDiff, Nat.reduceBEq, hcnd, hmd, hx1, hy1, Entry.enc, Part.enc, hmw, hw3]))))
            · have he : y = pt x.id j := by rw [part_ext]; simpa using hcnd
              have hc : (r.senses.take (m + 1)).count (pt x.id j) = (r.senses.take m).count (pt x.id j) + 1 := by rw [hmt, List.count_append, he]; simp
              exact ⟨(), sub_kn rfl (by simp (decide := true) only [go_sem, reduceIte, reduceCtorEq, Nat.reduceEqDiff, Nat.reduceAdd, Nat.reduceMul, Nat.reduceSub, Nat.reduceLeDiff, Nat.reduceBEq, hc]) (by simp [noMem])⟩
            · have he : ¬ y = pt x.id j := fun e => by subst e; simp at hcnd
              have hc : (r.senses.take (m + 1)).count (pt x.id j) = (r.senses.take m).count (pt x.id j) := by rw [hmt, List.count_append, List.count_singleton]; simp [he]
              exact ⟨(), sub_kn rfl (by simp (decide := true) only [go_sem, reduceIte, reduceCtorEq, Nat.reduceEqDiff, Nat.reduceAdd, Nat.reduceMul, Nat.reduceSub, Nat.reduceLeDiff, Nat.reduceBEq, hc]) (by simp [noMem])⟩
          · intro _ hmd _
            rw [List.take_length, hcnt]
            (repeat' (first | (refine dw_seq ?_) | (refine dw_block ?_) | ((first | (refine dw_reg (N := 96) rfl (by kernel_rfl) ?_) | (apply dw_drw (id := 24) (N := 96) [(0, .light), (1, .light), (2, .light), (3, .light), (4, .light), (5, .light), (6, .light), (7, .light), (8, .light), (9, .light), (10, .light), (11, .light)]; kernel_rfl; rfl; kernel_rfl; (repeat (first | exact Picks.nil | (apply Picks.cons; rfl)))) | (refine dw_skip ?_) | (refine dw_exit ?_)); simp (decide := true) only [go_sem, reduceIte, reduceCtorEq, Nat.reduceEqDiff, Nat.reduceAdd, Nat.reduceMul, Nat.reduceSub, Nat.reduceLeDiff, Nat.reduceBEq, hmd, hjw]) | (apply dw_cond; (simp (decide := true) only [go_sem, reduceIte, reduceCtorEq, Nat.reduceEqDiff, Nat.reduceAdd, Nat.reduceMul, Nat.reduceSub, Nat.reduceLeDiff, Nat.reduceBEq, hmd, hjw]; rfl); all_goals (intro hcnd; first | (exact absurd hcnd (by decide)) | skip)) | ((first | refine guardC_f ?_ ?_ | refine guardC_t ?_ ?_) <;> (intro hcnd; simp (decide := true) only [go_sem, reduceIte, reduceCtorEq, Nat.reduceEqDiff, Nat.reduceAdd, Nat.reduceMul, Nat.reduceSub, Nat.reduceLeDiff, Nat.reduceBEq, hcnd, hmd, hjw]))))
            exact ⟨(), sub_kn rfl (by simp (decide := true) only [go_sem, reduceIte, reduceCtorEq, Nat.reduceEqDiff, Nat.reduceAdd, Nat.reduceMul, Nat.reduceSub, Nat.reduceLeDiff, Nat.reduceBEq]) (by simp [noMem])⟩
        · intro _ hjd _
          (repeat' (first | (refine dw_seq ?_) | (refine dw_block ?_) | ((first | (refine dw_reg (N := 96) rfl (by kernel_rfl) ?_) | (apply dw_drw (id := 24) (N := 96) [(0, .light), (1, .light), (2, .light), (3, .light), (4, .light), (5, .light), (6, .light), (7, .light), (8, .light), (9, .light), (10, .light), (11, .light)]; kernel_rfl; rfl; kernel_rfl; (repeat (first | exact Picks.nil | (apply Picks.cons; rfl)))) | (refine dw_skip ?_) | (refine dw_exit ?_)); simp (decide := true) only [go_sem, reduceIte, reduceCtorEq, Nat.reduceEqDiff, Nat.reduceAdd, Nat.reduceMul, Nat.reduceSub, Nat.reduceLeDiff, Nat.reduceBEq, hjd, hw]) | (apply dw_cond; (simp (decide := true) only [go_sem, reduceIte, reduceCtorEq, Nat.reduceEqDiff, Nat.reduceAdd, Nat.reduceMul, Nat.reduceSub, Nat.reduceLeDiff, Nat.reduceBEq, hjd, hw]; rfl); all_goals (intro hcnd; first | (exact absurd hcnd (by decide)) | skip)) | ((first | refine guardC_f ?_ ?_ | refine guardC_t ?_ ?_) <;> (intro hcnd; simp (decide := true) only [go_sem, reduceIte, reduceCtorEq, Nat.reduceEqDiff, Nat.reduceAdd, Nat.reduceMul, Nat.reduceSub, Nat.reduceLeDiff, Nat.reduceBEq, hcnd, hjd, hw]))))
          exact ⟨(), sub_kn rfl (by simp (decide := true) only [go_sem, reduceIte, reduceCtorEq, Nat.reduceEqDiff, Nat.reduceAdd, Nat.reduceMul, Nat.reduceSub, Nat.reduceLeDiff, Nat.reduceBEq]) (by simp [noMem])⟩
      · intro _ hd _
        rw [List.take_length, htot]
        have hz : ((sumL l : Int) - (sumL l : Int)) = 0 := by omega
        (repeat' (first | (refine dw_seq ?_) | (refine dw_block ?_) | ((first | (refine dw_reg (N := 96) rfl (by kernel_rfl) ?_) | (apply dw_drw (id := 24) (N := 96) [(0, .light), (1, .light), (2, .light), (3, .light), (4, .light), (5, .light), (6, .light), (7, .light), (8, .light), (9, .light), (10, .light), (11, .light)]; kernel_rfl; rfl; kernel_rfl; (repeat (first | exact Picks.nil | (apply Picks.cons; rfl)))) | (refine dw_skip ?_) | (refine dw_exit ?_) | (refine CallC.mk (awake_D) (LeL.of_eq rfl) ?_) | (refine CallC.light (awake_D) (LeL.of_eq rfl) ?_) | (refine dw_ret ?_)); simp (decide := true) only [go_sem, reduceIte, reduceCtorEq, Nat.reduceEqDiff, Nat.reduceAdd, Nat.reduceMul, Nat.reduceSub, Nat.reduceLeDiff, Nat.reduceBEq, hd, hz]) | (apply dw_cond; (simp (decide := true) only [go_sem, reduceIte, reduceCtorEq, Nat.reduceEqDiff, Nat.reduceAdd, Nat.reduceMul, Nat.reduceSub, Nat.reduceLeDiff, Nat.reduceBEq, hd, hz]; rfl); all_goals (intro hcnd; first | (exact absurd hcnd (by decide)) | skip)) | ((first | refine guardC_f ?_ ?_ | refine guardC_t ?_ ?_) <;> (intro hcnd; simp (decide := true) only [go_sem, reduceIte, reduceCtorEq, Nat.reduceEqDiff, Nat.reduceAdd, Nat.reduceMul, Nat.reduceSub, Nat.reduceLeDiff, Nat.reduceBEq, hcnd, hd, hz]))))
end Go.Proofs.Ytffcabenoakmgaa

/- Contracts of the laws of reversals (VI): Undone. -/
namespace Go.Proofs.Ytffcabenoakmgaa
open Go.Dl
attribute [local irreducible] DW DCalls ECalls wk

theorem full_zero (g : ByteArray) (p : Part) : ¬ Full zeroE g p := fun h => by have := h.1; simp [zeroE] at this

/-- THE PLAIN LAW: put in, and taken out again. -/
theorem undone {rows : List Row} {e : Entry} (hg : RGood rows) (hno : ∀ r ∈ rows, ∀ p ∈ r.senses, p.entry ≠ e.id) :
    updateR (updateR rows zeroE e) e zeroE = rows ∧ updateR (updateR rows zeroE e) zeroE e = updateR rows zeroE e := by
  have h1 := update_good hg zeroE e
  have hn : ∀ g p, Has rows g p → ¬ Full e g p := fun g p ⟨r, hr, _, hp⟩ hf => hno r hr p hp (Of_entry hf.2)
  constructor
  · refine rows_ext (update_good h1 _ _) hg fun g p => ?_
    rw [has_update h1, has_update hg]
    have := full_zero g p
    have := hn g p
    constructor
    · rintro (⟨h | h, h2⟩ | h)
      · exact h.1
      · exact absurd h h2
      · exact absurd h (full_zero g p)
    · intro h; exact .inl ⟨.inl ⟨h, full_zero g p⟩, hn g p h⟩
  · refine rows_ext (update_good h1 _ _) h1 fun g p => ?_
    rw [has_update h1, has_update hg]
    constructor
    · rintro (⟨h, _⟩ | h)
      · exact h
      · exact .inr h
    · intro h; exact .inl ⟨h, full_zero g p⟩

theorem undone_nums {rows : List Row} {e : Entry} (hg : RGood rows) (hm : Nums rows) (he : 1 ≤ e.id) : Nums (updateR rows zeroE e) := fun r hr p hp => by
  rcases (has_update hg zeroE e r.gloss p).1 ⟨r, hr, rfl, hp⟩ with ⟨⟨q, hq, _, hpq⟩, _⟩ | ⟨_, k, s, _, _, _, rfl⟩
  · exact hm q hq p hpq
  · exact ⟨he, by simp⟩

theorem undone_total {rows : List Row} {e : Entry} (hg : RGood rows) (he : 1 ≤ e.id) (hno : ∀ r ∈ rows, ∀ p ∈ r.senses, p.entry ≠ e.id) : total (updateR rows zeroE e) = total rows + e.senses.length := by
  have : updateR rows zeroE e = putsN rows e.id e.senses e.senses.length := by simp [updateR, zeroE, he]
  rw [this, total_puts hg (ss := e.senses) (fun g k ⟨r, hr, _, hp⟩ => hno r hr _ hp rfl) _ (Nat.le_refl _)]

theorem total_le {rows : List Row} {n : Nat} (h : RowsOk n rows) : total rows ≤ n * n := by
  have h2 : total rows ≤ n * rows.length := by
    have hs := h.2
    clear h
    induction rows with
    | nil => simp [total]
    | cons a l ih =>
      have h1 := hs a (by simp)
      have h2 := ih fun e he => hs e (by simp [he])
      rw [total_cons, List.length_cons, Nat.mul_add]; omega
  exact Nat.le_trans h2 (Nat.mul_le_mul_left n h.1)

--F10
set_option maxRecDepth 10000 in
set_option maxHeartbeats 8000000 in
theorem lawUndone (rows : List Row) (e : Entry) (hl : rows.length ≤ maxLen) : DCalls Try.prog 10 [dv (.sl 2 (rows.map Row.enc)), .agg (e.enc.map T.c)] (dv (lb true)) := by
  refine dcalls (N := 126) (rs := [.tmp 4]) (by kernel_rfl) Try.func10 rfl rfl rfl (by simp) ?_
  have k0 := short_D rows hl
  cases hf : shortB rows with
  | false => (repeat' (first | (refine dw_seq ?_) | (refine dw_block ?_) | ((first | (refine dw_reg (N := 126) rfl (by kernel_rfl) ?_) | (apply dw_drw (id := 9) (N := 126) [(0, .light), (1, .light), (2, .light), (3, .light), (4, .light), (5, .light), (6, .light), (7, .light), (8, .light), (9, .light), (10, .light), (11, .light)]; kernel_rfl; rfl; kernel_rfl; (repeat (first | exact Picks.nil | (apply Picks.cons; rfl)))) | (refine dw_skip ?_) | (refine dw_exit ?_) | (refine CallC.mk (k0) (LeL.of_eq rfl) ?_) | (refine CallC.light (k0) (LeL.of_eq rfl) ?_) | (refine CallC.mk (awake_D) (LeL.of_eq rfl) ?_) | (refine CallC.light (awake_D) (LeL.of_eq rfl) ?_) | (refine dw_ret ?_)); simp (decide := true) only [go_sem, reduceIte, reduceCtorEq, Nat.reduceEqDiff, Nat.reduceAdd, Nat.reduceMul, Nat.reduceSub, Nat.reduceLeDiff, Nat.reduceBEq, hf, Entry.enc]) | (apply dw_cond; (simp (decide := true) only [go_sem, reduceIte, reduceCtorEq, Nat.reduceEqDiff, Nat.reduceAdd, Nat.reduceMul, Nat.reduceSub, Nat.reduceLeDiff, Nat.reduceBEq, hf, Entry.enc]; rfl); all_goals (intro hcnd; first | (exact absurd hcnd (by decide)) | skip)) | ((first | refine guardC_f ?_ ?_ | refine guardC_t ?_ ?_) <;> (intro hcnd; simp (decide := true) only [go_sem, reduceIte, reduceCtorEq, Nat.reduceEqDiff, Nat.reduceAdd, Nat.reduceMul, Nat.reduceSub, Nat.reduceLeDiff, Nat.reduceBEq, hcnd, hf, Entry.enc]))))
  | true =>
    obtain ⟨h1, h2⟩ := short_len hf
    have kc := check_D rows (by omega) (fun r hr => by have := h2 r hr; omega)
    cases hc : (checkR rows != 0) with
    | true => (repeat' (first | (refine dw_seq ?_) | (refine dw_block ?_) | ((first | (refine dw_reg (N := 126) rfl (by kernel_rfl) ?_) | (apply dw_drw (id := 9) (N := 126) [(0, .light), (1, .light), (2, .light), (3, .light), (4, .light), (5, .light), (6, .light), (7, .light), (8, .light), (9, .light), (10, .light), (11, .light)]; kernel_rfl; rfl; kernel_rfl; (repeat (first | exact Picks.nil | (apply Picks.cons; rfl)))) | (refine dw_skip ?_) | (refine dw_exit ?_) | (refine CallC.mk (k0) (LeL.of_eq rfl) ?_) | (refine CallC.light (k0) (LeL.of_eq rfl) ?_) | (refine CallC.mk (kc) (LeL.of_eq rfl) ?_) | (refine CallC.light (kc) (LeL.of_eq rfl) ?_) | (refine CallC.mk (awake_D) (LeL.of_eq rfl) ?_) | (refine CallC.light (awake_D) (LeL.of_eq rfl) ?_) | (refine dw_ret ?_)); simp (decide := true) only [go_sem, reduceIte, reduceCtorEq, Nat.reduceEqDiff, Nat.reduceAdd, Nat.reduceMul, Nat.reduceSub, Nat.reduceLeDiff, Nat.reduceBEq, hf, hc, Entry.enc]) | (apply dw_cond; (simp (decide := true) only [go_sem, reduceIte, reduceCtorEq, Nat.reduceEqDiff, Nat.reduceAdd, Nat.reduceMul, Nat.reduceSub, Nat.reduceLeDiff, Nat.reduceBEq, hf, hc, Entry.enc]; rfl); all_goals (intro hcnd; first | (exact absurd hcnd (by decide)) | skip)) | ((first | refine guardC_f ?_ ?_ | refine guardC_t ?_ ?_) <;> (intro hcnd; simp (decide := true) only [go_sem, reduceIte, reduceCtorEq, Nat.reduceEqDiff, Nat.reduceAdd, Nat.reduceMul, Nat.reduceSub, Nat.reduceLeDiff, Nat.reduceBEq, hcnd, hf, hc, Entry.enc]))))
    | false =>
      have hc0 : checkR rows = 0 := by simpa using hc
      obtain ⟨hg, hnum⟩ := (check_iff rows).1 hc0
      have k1 := few28_D [e] (by simp [maxLen])
      cases hw : few28 [e] with
      | false => (repeat' (first | (refine dw_seq ?_) | (refine dw_block ?_) | ((first | (refine dw_reg (N := 126) rfl (by kernel_rfl) ?_) | (apply dw_drw (id := 9) (N := 126) [(0, .light), (1, .light), (2, .light), (3, .light), (4, .light), (5, .light), (6, .light), (7, .light), (8, .light), (9, .light), (10, .light), (11, .light)]; kernel_rfl; rfl; kernel_rfl; (repeat (first | exact Picks.nil | (apply Picks.cons; rfl)))) | (refine dw_skip ?_) | (refine dw_exit ?_) | (refine CallC.mk (k0) (LeL.of_eq rfl) ?_) | (refine CallC.light (k0) (LeL.of_eq rfl) ?_) | (refine CallC.mk (kc) (LeL.of_eq rfl) ?_) | (refine CallC.light (kc) (LeL.of_eq rfl) ?_) | (refine CallC.mk (k1) (LeL.of_eq rfl) ?_) | (refine CallC.light (k1) (LeL.of_eq rfl) ?_) | (refine CallC.mk (awake_D) (LeL.of_eq rfl) ?_) | (refine CallC.light (awake_D) (LeL.of_eq rfl) ?_) | (refine dw_ret ?_)); simp (decide := true) only [go_sem, reduceIte, reduceCtorEq, Nat.reduceEqDiff, Nat.reduceAdd, Nat.reduceMul, Nat.reduceSub, Nat.reduceLeDiff, Nat.reduceBEq, hf, hc, hw, Entry.enc]) | (apply dw_cond; (simp (decide := true) only [go_sem, reduceIte, reduceCtorEq, Nat.reduceEqDiff, Nat.reduceAdd, Nat.reduceMul, Nat.reduceSub, Nat.reduceLeDiff, Nat.reduceBEq, hf, hc, hw, Entry.enc]; rfl); all_goals (intro hcnd; first | (exact absurd hcnd (by decide)) | skip)) | ((first | refine guardC_f ?_ ?_ | refine guardC_t ?_ ?_) <;> (intro hcnd; simp (decide := true) only [go_sem, reduceIte, reduceCtorEq, Nat.reduceEqDiff, Nat.reduceAdd, Nat.reduceMul, Nat.reduceSub, Nat.reduceLeDiff, Nat.reduceBEq, hcnd, hf, hc, hw, Entry.enc]))))
      | true =>
        have he := few1 hw
        have k2 := once_D e (by omega)
        cases ho : onceB e.senses with
        | false => (repeat' (first | (refine dw_seq ?_) | (refine dw_block ?_) | ((first | (refine dw_reg (N := 126) rfl (by kernel_rfl) ?_) | (apply dw_drw (id := 9) (N := 126) [(0, .light), (1, .light), (2, .light), (3, .light), (4, .light), (5, .light), (6, .light), (7, .light), (8, .light), (9, .light), (10, .light), (11, .light)]; kernel_rfl; rfl; kernel_rfl; (repeat (first | exact Picks.nil | (apply Picks.cons; rfl)))) | (refine dw_skip ?_) | (refine dw_exit ?_) | (refine CallC.mk (k0) (LeL.of_eq rfl) ?_) | (refine CallC.light (k0) (LeL.of_eq rfl) ?_) | (refine CallC.mk (kc) (LeL.of_eq rfl) ?_) | (refine CallC.light (kc) (LeL.of_eq rfl) ?_) | (refine CallC.mk (k1) (LeL.of_eq rfl) ?_) | (refine CallC.light (k1) (LeL.of_eq rfl) ?_) | (refine CallC.mk (k2) (LeL.of_eq rfl) ?_) | (refine CallC.light (k2) (LeL.of_eq rfl) ?_) | (refine CallC.mk (awake_D) (LeL.of_eq rfl) ?_) | (refine CallC.light (awake_D) (LeL.of_eq rfl) ?_) | (refine dw_ret ?_)); simp (decide := true) only [go_sem, reduceIte, reduceCtorEq, Nat.reduceEqDiff, Nat.reduceAdd, Nat.reduceMul, Nat.reduceSub, Nat.reduceLeDiff, Nat.reduceBEq, hf, hc, hw, ho, Entry.enc]) | (apply dw_cond; (simp (decide := true) only [go_sem, reduceIte, reduceCtorEq, Nat.reduceEqDiff, Nat.reduceAdd, Nat.reduceMul, Nat.reduceSub, Nat.reduceLeDiff, Nat.reduceBEq, hf, hc, hw, ho, Entry.enc]; rfl); all_goals (intro hcnd; first | (exact absurd hcnd (by decide)) | skip)) | ((first | refine guardC_f ?_ ?_ | refine guardC_t ?_ ?_) <;> (intro hcnd; simp (decide := true) only [go_sem, reduceIte, reduceCtorEq, Nat.reduceEqDiff, Nat.reduceAdd, Nat.reduceMul, Nat.reduceSub, Nat.reduceLeDiff, Nat.reduceBEq, hcnd, hf, hc, hw, ho, Entry.enc]))))
        | true =>
          cases hi : decide (e.id < 1) with
          | true => (repeat' (first | (refine dw_seq ?_) | (refine dw_block ?_) | ((first | (refine dw_reg (N := 126) rfl (by kernel_rfl) ?_) | (apply dw_drw (id := 9) (N := 126) [(0, .light), (1, .light), (2, .light), (3, .light), (4, .light), (5, .light), (6, .light), (7, .light), (8, .light), (9, .light), (10, .light), (11, .light)]; kernel_rfl; rfl; kernel_rfl; (repeat (first | exact Picks.nil | (apply Picks.cons; rfl)))) | (refine dw_skip ?_) | (refine dw_exit ?_) | (refine CallC.mk (k0) (LeL.of_eq rfl) ?_) | (refine CallC.light (k0) (LeL.of_eq rfl) ?_) | (refine CallC.mk (kc) (LeL.of_eq rfl) ?_) | (refine CallC.light (kc) (LeL.of_eq rfl) ?_) | (refine CallC.mk (k1) (LeL.of_eq rfl) ?_) | (refine CallC.light (k1) (LeL.of_eq rfl) ?_) | (refine CallC.mk (k2) (LeL.of_eq rfl) ?_) | (refine CallC.light (k2) (LeL.of_eq rfl) ?_) | (refine CallC.mk (awake_D) (LeL.of_eq rfl) ?_) | (refine CallC.light (awake_D) (LeL.of_eq rfl) ?_) | (refine dw_ret ?_)); simp (decide := true) only [go_sem, reduceIte, reduceCtorEq, Nat.reduceEqDiff, Nat.reduceAdd, Nat.reduceMul, Nat.reduceSub, Nat.reduceLeDiff, Nat.reduceBEq, hf, hc, hw, ho, hi, Entry.enc]) | (apply dw_cond; (simp (decide := true) only [go_sem, reduceIte, reduceCtorEq, Nat.reduceEqDiff, Nat.reduceAdd, Nat.reduceMul, Nat.reduceSub, Nat.reduceLeDiff, Nat.reduceBEq, hf, hc, hw, ho, hi, Entry.enc]; rfl); all_goals (intro hcnd; first | (exact absurd hcnd (by decide)) | skip)) | ((first | refine guardC_f ?_ ?_ | refine guardC_t ?_ ?_) <;> (intro hcnd; simp (decide := true) only [go_sem, reduceIte, reduceCtorEq, Nat.reduceEqDiff, Nat.reduceAdd, Nat.reduceMul, Nat.reduceSub, Nat.reduceLeDiff, Nat.reduceBEq, hcnd, hf, hc, hw, ho, hi, Entry.enc]))))
          | false =>
            have hi' : 1 ≤ e.id := by simp at hi; omega
            (repeat' (first | (refine dw_seq ?_) | (refine dw_block ?_) | ((first | (refine dw_reg (N := 126) rfl (by kernel_rfl) ?_) | (apply dw_drw (id := 9) (N := 126) [(0, .light), (1, .light), (2, .light), (3, .light), (4, .light), (5, .light), (6, .light), (7, .light), (8, .light), (9, .light), (10, .light), (11, .light)]; kernel_rfl; rfl; kernel_rfl; (repeat (first | exact Picks.nil | (apply Picks.cons; rfl)))) | (refine dw_skip ?_) | (refine dw_exit ?_) | (refine CallC.mk (k0) (LeL.of_eq rfl) ?_) | (refine CallC.light (k0) (LeL.of_eq rfl) ?_) | (refine CallC.mk (kc) (LeL.of_eq rfl) ?_) | (refine CallC.light (kc) (LeL.of_eq rfl) ?_) | (refine CallC.mk (k1) (LeL.of_eq rfl) ?_) | (refine CallC.light (k1) (LeL.of_eq rfl) ?_) | (refine CallC.mk (k2) (LeL.of_eq rfl) ?_) | (refine CallC.light (k2) (LeL.of_eq rfl) ?_)); simp (decide := true) only [go_sem, reduceIte, reduceCtorEq, Nat.reduceEqDiff, Nat.reduceAdd, Nat.reduceMul, Nat.reduceSub, Nat.reduceLeDiff, Nat.reduceBEq, hf, hc, hw, ho, hi, Entry.enc]) | (apply dw_cond; (simp (decide := true) only [go_sem, reduceIte, reduceCtorEq, Nat.reduceEqDiff, Nat.reduceAdd, Nat.reduceMul, Nat.reduceSub, Nat.reduceLeDiff, Nat.reduceBEq, hf, hc, hw, ho, hi, Entry.enc]; rfl); all_goals (intro hcnd; first | (exact absurd hcnd (by decide)) | skip)) | ((first | refine guardC_f ?_ ?_ | refine guardC_t ?_ ?_) <;> (intro hcnd; simp (decide := true) only [go_sem, reduceIte, reduceCtorEq, Nat.reduceEqDiff, Nat.reduceAdd, Nat.reduceMul, Nat.reduceSub, Nat.reduceLeDiff, Nat.reduceBEq, hcnd, hf, hc, hw, ho, hi, Entry.enc]))))
            refine dw_rng rows (fun k (_ : Unit) => kn 126 [(0, dv (.sl 2 (rows.map Row.enc))), (3, .one (.bx 3 8 0 0)), (37, dv (li rows.length)), (38, dv (li k))] (ml [(3, [e.enc.map T.c])])) (fun k _ => ∀ r ∈ rows.take k, ∀ p ∈ r.senses, p.entry ≠ e.id) () hl (sub_ml rfl (by simp (decide := true) only [go_sem, reduceIte, reduceCtorEq, Nat.reduceEqDiff, Nat.reduceAdd, Nat.reduceMul, Nat.reduceSub, Nat.reduceLeDiff, Nat.reduceBEq]) (by simp (decide := true) only [go_sem, reduceIte, reduceCtorEq, Nat.reduceEqDiff, Nat.reduceAdd, Nat.reduceMul, Nat.reduceSub, Nat.reduceLeDiff, Nat.reduceBEq, Entry.enc])) (by simp) ?_ ?_
            · intro k r _ hr1 hk hm ht hd hw1 hno
              have hrs := h2 r hm
              (repeat' (first | (refine dw_seq ?_) | (refine dw_block ?_) | ((first | (refine dw_reg (N := 126) rfl (by kernel_rfl) ?_) | (apply dw_drw (id := 9) (N := 126) [(0, .light), (1, .light), (2, .light), (3, .light), (4, .light), (5, .light), (6, .light), (7, .light), (8, .light), (9, .light), (10, .light), (11, .light)]; kernel_rfl; rfl; kernel_rfl; (repeat (first | exact Picks.nil | (apply Picks.cons; rfl)))) | (refine dw_skip ?_) | (refine dw_exit ?_)); simp (decide := true) only [go_sem, reduceIte, reduceCtorEq, Nat.reduceEqDiff, Nat.reduceAdd, Nat.reduceMul, Nat.reduceSub, Nat.reduceLeDiff, Nat.reduceBEq, hd, hr1, Row.enc]) | (apply dw_cond; (simp (decide := true) only [go_sem, reduceIte, reduceCtorEq, Nat.reduceEqDiff, Nat.reduceAdd, Nat.reduceMul, Nat.reduceSub, Nat.reduceLeDiff, Nat.reduceBEq, hd, hr1, Row.enc]; rfl); all_goals (intro hcnd; first | (exact absurd hcnd (by decide)) | skip)) | ((first | refine guardC_f ?_ ?_ | refine guardC_t ?_ ?_) <;> (intro hcnd; simp (decide := true) only [go_sem, reduceIte, reduceCtorEq, Nat.reduceEqDiff, Nat.reduceAdd, Nat.reduceMul, Nat.reduceSub, Nat.reduceLeDiff, Nat.reduceBEq, hcnd, hd, hr1, Row.enc]))))
              refine dw_rng r.senses (fun j (_ : Unit) => kn 126 [(0, dv (.sl 2 (rows.map Row.enc))), (3, .one (.bx 3 8 0 0)), (5, dv (li k)), (37, dv (li rows.length)), (38, dv (li k)), (46, dv (li r.senses.length)), (47, dv (li j))] (ml [(3, [e.enc.map T.c])])) (fun j _ => ∀ p ∈ r.senses.take j, p.entry ≠ e.id) () (by simp [maxLen]; omega) (sub_ml rfl (by simp (decide := true) only [go_sem, reduceIte, reduceCtorEq, Nat.reduceEqDiff, Nat.reduceAdd, Nat.reduceMul, Nat.reduceSub, Nat.reduceLeDiff, Nat.reduceBEq]) (by simp (decide := true) only [go_sem, reduceIte, reduceCtorEq, Nat.reduceEqDiff, Nat.reduceAdd, Nat.reduceMul, Nat.reduceSub, Nat.reduceLeDiff, Nat.reduceBEq, Entry.enc])) (by simp) ?_ ?_
              · intro j y _ hy1 hj hjm hjt hjd hjw hno2
                (repeat' (first | (refine dw_seq ?_) | (refine dw_block ?_) | ((first | (refine dw_reg (N := 126) rfl (by kernel_rfl) ?_) | (apply dw_drw (id := 9) (N := 126) [(0, .light), (1, .light), (2, .light), (3, .light), (4, .light), (5, .light), (6, .light), (7, .light), (8, .light), (9, .light), (10, .light), (11, .light)]; kernel_rfl; rfl; kernel_rfl; (repeat (first | exact Picks.nil | (apply Picks.cons; rfl)))) | (refine dw_skip ?_) | (refine dw_exit ?_) | (refine CallC.mk (awake_D) (LeL.of_eq rfl) ?_) | (refine CallC.light (awake_D) (LeL.of_eq rfl) ?_) | (refine dw_ret ?_)); simp (decide := true) only [go_sem, reduceIte, reduceCtorEq, Nat.reduceEqDiff, Nat.reduceAdd, Nat.reduceMul, Nat.reduceSub, Nat.reduceLeDiff, Nat.reduceBEq, hjd, hr1, hy1, Row.enc, Part.enc, Entry.enc, hjw]) | (apply dw_cond; (simp (decide := true) only [go_sem, reduceIte, reduceCtorEq, Nat.reduceEqDiff, Nat.reduceAdd, Nat.reduceMul, Nat.reduceSub, Nat.reduceLeDiff, Nat.reduceBEq, hjd, hr1, hy1, Row.enc, Part.enc, Entry.enc, hjw]; rfl); all_goals (intro hcnd; first | (exact absurd hcnd (by decide)) | skip)) | ((first | refine guardC_f ?_ ?_ | refine guardC_t ?_ ?_) <;> (intro hcnd; simp (decide := true) only [go_sem, reduceIte, reduceCtorEq, Nat.reduceEqDiff, Nat.reduceAdd, Nat.reduceMul, Nat.reduceSub, Nat.reduceLeDiff, Nat.reduceBEq, hcnd, hjd, hr1, hy1, Row.enc, Part.enc, Entry.enc, hjw]))))
                exact ⟨(), forall_snoc hjt hno2 (by simpa using hcnd), sub_ml rfl (by simp (decide := true) only [go_sem, reduceIte, reduceCtorEq, Nat.reduceEqDiff, Nat.reduceAdd, Nat.reduceMul, Nat.reduceSub, Nat.reduceLeDiff, Nat.reduceBEq]) (by simp (decide := true) only [go_sem, reduceIte, reduceCtorEq, Nat.reduceEqDiff, Nat.reduceAdd, Nat.reduceMul, Nat.reduceSub, Nat.reduceLeDiff, Nat.reduceBEq, Entry.enc])⟩
              · intro _ hjd hno2
                rw [List.take_length] at hno2
                (repeat' (first | (refine dw_seq ?_) | (refine dw_block ?_) | ((first | (refine dw_reg (N := 126) rfl (by kernel_rfl) ?_) | (apply dw_drw (id := 9) (N := 126) [(0, .light), (1, .light), (2, .light), (3, .light), (4, .light), (5, .light), (6, .light), (7, .light), (8, .light), (9, .light), (10, .light), (11, .light)]; kernel_rfl; rfl; kernel_rfl; (repeat (first | exact Picks.nil | (apply Picks.cons; rfl)))) | (refine dw_skip ?_) | (refine dw_exit ?_)); simp (decide := true) only [go_sem, reduceIte, reduceCtorEq, Nat.reduceEqDiff, Nat.reduceAdd, Nat.reduceMul, Nat.reduceSub, Nat.reduceLeDiff, Nat.reduceBEq, hjd, hw1]) | (apply dw_cond; (simp (decide := true) only [go_sem, reduceIte, reduceCtorEq, Nat.reduceEqDiff, Nat.reduceAdd, Nat.reduceMul, Nat.reduceSub, Nat.reduceLeDiff, Nat.reduceBEq, hjd, hw1]; rfl); all_goals (intro hcnd; first | (exact absurd hcnd (by decide)) | skip)) | ((first | refine guardC_f ?_ ?_ | refine guardC_t ?_ ?_) <;> (intro hcnd; simp (decide := true) only [go_sem, reduceIte, reduceCtorEq, Nat.reduceEqDiff, Nat.reduceAdd, Nat.reduceMul, Nat.reduceSub, Nat.reduceLeDiff, Nat.reduceBEq, hcnd, hjd, hw1]))))
                exact ⟨(), forall_snoc ht hno hno2, sub_ml rfl (by simp (decide := true) only [go_sem, reduceIte, reduceCtorEq, Nat.reduceEqDiff, Nat.reduceAdd, Nat.reduceMul, Nat.reduceSub, Nat.reduceLeDiff, Nat.reduceBEq]) (by simp (decide := true) only [go_sem, reduceIte, reduceCtorEq, Nat.reduceEqDiff, Nat.reduceAdd, Nat.reduceMul, Nat.reduceSub, Nat.reduceLeDiff, Nat.reduceBEq, Entry.enc])⟩
            · intro _ hd hno
              rw [List.take_length] at hno
              have hro := rowsOk_short hf
              have hX := update_len hro zeroE e
              have hgX := update_good hg zeroE e
              have hcX := (check_iff _).2 ⟨hgX, undone_nums hg hnum hi'⟩
              have hund := undone hg hno
              have htot := undone_total hg hi' hno
              have htl := total_le hro
              have ku := updateP_D rows zeroE e (hro.mono (by omega)) hg (by simp [zeroE]) (by omega)
              generalize updateR rows zeroE e = X at hX hgX hcX hund htot ku
              have hXl := hX.1
              have kX := check_D X (by omega) (fun r hr => by have := hX.2 r hr; omega)
              rw [hcX] at kX
              have ku2 := updateP_D X e zeroE (hX.mono (by omega)) hgX (by omega) (by simp [zeroE])
              rw [hund.1] at ku2
              have ku3 := updateP_D X zeroE e (hX.mono (by omega)) hgX (by simp [zeroE]) (by omega)
              rw [hund.2] at ku3
              have ks1 := same_refl hro (by omega)
              have ks2 := same_refl hX (by omega)
              (repeat' (first | (refine dw_seq ?_) | (refine dw_block ?_) | ((first | (refine dw_reg (N := 126) rfl (by kernel_rfl) ?_) | (apply dw_drw (id := 9) (N := 126) [(0, .light), (1, .light), (2, .light), (3, .light), (4, .light), (5, .light), (6, .light), (7, .light), (8, .light), (9, .light), (10, .light), (11, .light)]; kernel_rfl; rfl; kernel_rfl; (repeat (first | exact Picks.nil | (apply Picks.cons; rfl)))) | (refine dw_skip ?_) | (refine dw_exit ?_) | (refine CallC.mk (ku) (LeL.of_eq rfl) ?_) | (refine CallC.light (ku) (LeL.of_eq rfl) ?_)); simp (decide := true) only [go_sem, reduceIte, reduceCtorEq, Nat.reduceEqDiff, Nat.reduceAdd, Nat.reduceMul, Nat.reduceSub, Nat.reduceLeDiff, Nat.reduceBEq, hd, Entry.enc]) | (apply dw_cond; (simp (decide := true) only [go_sem, reduceIte, reduceCtorEq, Nat.reduceEqDiff, Nat.reduceAdd, Nat.reduceMul, Nat.reduceSub, Nat.reduceLeDiff, Nat.reduceBEq, hd, Entry.enc]; rfl); all_goals (intro hcnd; first | (exact absurd hcnd (by decide)) | skip)) | ((first | refine guardC_f ?_ ?_ | refine guardC_t ?_ ?_) <;> (intro hcnd; simp (decide := true) only [go_sem, reduceIte, reduceCtorEq, Nat.reduceEqDiff, Nat.reduceAdd, Nat.reduceMul, Nat.reduceSub, Nat.reduceLeDiff, Nat.reduceBEq, hcnd, hd, Entry.enc]))))
              refine dw_rng X (fun k (_ : Unit) => kn 126 [(0, dv (.sl 2 (rows.map Row.enc))), (3, .one (.bx 3 8 0 0)), (7, dv (.sl 2 (X.map Row.enc))), (8, dv (li (total (X.take k)))), (70, dv (li X.length)), (71, dv (li k))] (ml [(3, [e.enc.map T.c])])) (fun _ _ => True) () (by simp [maxLen]; omega) (sub_ml rfl (by simp (decide := true) only [go_sem, reduceIte, reduceCtorEq, Nat.reduceEqDiff, Nat.reduceAdd, Nat.reduceMul, Nat.reduceSub, Nat.reduceLeDiff, Nat.reduceBEq, total, List.sum_nil]) (by simp (decide := true) only [go_sem, reduceIte, reduceCtorEq, Nat.reduceEqDiff, Nat.reduceAdd, Nat.reduceMul, Nat.reduceSub, Nat.reduceLeDiff, Nat.reduceBEq, Entry.enc])) trivial ?_ ?_
              · intro k r _ hr1 hk hm ht hd hw1 _
                have hle := total_take (rows := X) (k := k + 1)
                have hw2 : IntKind.i64.wrap ((total (X.take k) : Int) + (r.senses.length : Int)) = (total (X.take (k + 1)) : Int) := by
                  rw [ht, total_snoc] at hle ⊢
                  rw [wrap_small (by omega) (by omega)]; simp
                (repeat' (first | (refine dw_seq ?_) | (refine dw_block ?_) | ((first | (refine dw_reg (N := 126) rfl (by kernel_rfl) ?_) | (apply dw_drw (id := 9) (N := 126) [(0, .light), (1, .light), (2, .light), (3, .light), (4, .light), (5, .light), (6, .light), (7, .light), (8, .light), (9, .light), (10, .light), (11, .light)]; kernel_rfl; rfl; kernel_rfl; (repeat (first | exact Picks.nil | (apply Picks.cons; rfl)))) | (refine dw_skip ?_) | (refine dw_exit ?_)); simp (decide := true) only [go_sem, reduceIte, reduceCtorEq, Nat.reduceEqDiff, Nat.reduceAdd, Nat.reduceMul, Nat.reduceSub, Nat.reduceLeDiff, Nat.reduceBEq, hd, hr1, Row.enc, hw1, hw2]) | (apply dw_cond; (simp (decide := true) only [go_sem, reduceIte, reduceCtorEq, Nat.reduceEqDiff, Nat.reduceAdd, Nat.reduceMul, Nat.reduceSub, Nat.reduceLeDiff, Nat.reduceBEq, hd, hr1, Row.enc, hw1, hw2]; rfl); all_goals (intro hcnd; first | (exact absurd hcnd (by decide)) | skip)) | ((first | refine guardC_f ?_ ?_ | refine guardC_t ?_ ?_) <;> (intro hcnd; simp (decide := true) only [go_sem, reduceIte, reduceCtorEq, Nat.reduceEqDiff, Nat.reduceAdd, Nat.reduceMul, Nat.reduceSub, Nat.reduceLeDiff, Nat.reduceBEq, hcnd, hd, hr1, Row.enc, hw1, hw2]))))
                exact ⟨(), sub_ml rfl (by simp (decide := true) only [go_sem, reduceIte, reduceCtorEq, Nat.reduceEqDiff, Nat.reduceAdd, Nat.reduceMul, Nat.reduceSub, Nat.reduceLeDiff, Nat.reduceBEq]) (by simp (decide := true) only [go_sem, reduceIte, reduceCtorEq, Nat.reduceEqDiff, Nat.reduceAdd, Nat.reduceMul, Nat.reduceSub, Nat.reduceLeDiff, Nat.reduceBEq, Entry.enc])⟩
              · intro _ hd _
                rw [List.take_length]
                (repeat' (first | (refine dw_seq ?_) | (refine dw_block ?_) | ((first | (refine dw_reg (N := 126) rfl (by kernel_rfl) ?_) | (apply dw_drw (id := 9) (N := 126) [(0, .light), (1, .light), (2, .light), (3, .light), (4, .light), (5, .light), (6, .light), (7, .light), (8, .light), (9, .light), (10, .light), (11, .light)]; kernel_rfl; rfl; kernel_rfl; (repeat (first | exact Picks.nil | (apply Picks.cons; rfl)))) | (refine dw_skip ?_) | (refine dw_exit ?_)); simp (decide := true) only [go_sem, reduceIte, reduceCtorEq, Nat.reduceEqDiff, Nat.reduceAdd, Nat.reduceMul, Nat.reduceSub, Nat.reduceLeDiff, Nat.reduceBEq, hd]) | (apply dw_cond; (simp (decide := true) only [go_sem, reduceIte, reduceCtorEq, Nat.reduceEqDiff, Nat.reduceAdd, Nat.reduceMul, Nat.reduceSub, Nat.reduceLeDiff, Nat.reduceBEq, hd]; rfl); all_goals (intro hcnd; first | (exact absurd hcnd (by decide)) | skip)) | ((first | refine guardC_f ?_ ?_ | refine guardC_t ?_ ?_) <;> (intro hcnd; simp (decide := true) only [go_sem, reduceIte, reduceCtorEq, Nat.reduceEqDiff, Nat.reduceAdd, Nat.reduceMul, Nat.reduceSub, Nat.reduceLeDiff, Nat.reduceBEq, hcnd, hd]))))
                refine dw_rng rows (fun k (_ : Unit) => kn 126 [(0, dv (.sl 2 (rows.map Row.enc))), (3, .one (.bx 3 8 0 0)), (7, dv (.sl 2 (X.map Row.enc))), (8, dv (li ((total X : Int) - (total (rows.take k) : Int)))), (84, dv (li rows.length)), (85, dv (li k))] (ml [(3, [e.enc.map T.c])])) (fun _ _ => True) () hl (sub_ml rfl (by simp (decide := true) only [go_sem, reduceIte, reduceCtorEq, Nat.reduceEqDiff, Nat.reduceAdd, Nat.reduceMul, Nat.reduceSub, Nat.reduceLeDiff, Nat.reduceBEq, total, List.sum_nil, Int.sub_zero]) (by simp (decide := true) only [go_sem, reduceIte, reduceCtorEq, Nat.reduceEqDiff, Nat.reduceAdd, Nat.reduceMul, Nat.reduceSub, Nat.reduceLeDiff, Nat.reduceBEq, Entry.enc])) trivial ?_ ?_
                · intro k r _ hr1 hk hm ht hd hw1 _
                  have hle := total_take (rows := rows) (k := k + 1)
                  have hrs := h2 r hm
                  have hw2 : IntKind.i64.wrap (((total X : Int) - (total (rows.take k) : Int)) - (r.senses.length : Int)) = (total X : Int) - (total (rows.take (k + 1)) : Int) := by
                    rw [ht, total_snoc] at hle ⊢
                    rw [wrap_small (by omega) (by omega)]; omega
                  (repeat' (first | (refine dw_seq ?_) | (refine dw_block ?_) | ((first | (refine dw_reg (N := 126) rfl (by kernel_rfl) ?_) | (apply dw_drw (id := 9) (N := 126) [(0, .light), (1, .light), (2, .light), (3, .light), (4, .light), (5, .light), (6, .light), (7, .light), (8, .light), (9, .light), (10, .light), (11, .light)]; kernel_rfl; rfl; kernel_rfl; (repeat (first | exact Picks.nil | (apply Picks.cons; rfl)))) | (refine dw_skip ?_) | (refine dw_exit ?_)); simp (decide := true) only [go_sem, reduceIte, reduceCtorEq, Nat.reduceEqDiff, Nat.reduceAdd, Nat.reduceMul, Nat.reduceSub, Nat.reduceLeDiff, Nat.reduceBEq, hd, hr1, Row.enc, hw2, hw1]) | (apply dw_cond; (simp (decide := true) only [go_sem, reduceIte, reduceCtorEq, Nat.reduceEqDiff, Nat.reduceAdd, Nat.reduceMul, Nat.reduceSub, Nat.reduceLeDiff, Nat.reduceBEq, hd, hr1, Row.enc, hw2, hw1]; rfl); all_goals (intro hcnd; first | (exact absurd hcnd (by decide)) | skip)) | ((first | refine guardC_f ?_ ?_ | refine guardC_t ?_ ?_) <;> (intro hcnd; simp (decide := true) only [go_sem, reduceIte, reduceCtorEq, Nat.reduceEqDiff, Nat.reduceAdd, Nat.reduceMul, Nat.reduceSub, Nat.reduceLeDiff, Nat.reduceBEq, hcnd, hd, hr1, Row.enc, hw2, hw1]))))
                  exact ⟨(), sub_ml rfl (by simp (decide := true) only [go_sem, reduceIte, reduceCtorEq, Nat.reduceEqDiff, Nat.reduceAdd, Nat.reduceMul, Nat.reduceSub, Nat.reduceLeDiff, Nat.reduceBEq]) (by simp (decide := true) only [go_sem, reduceIte, reduceCtorEq, Nat.reduceEqDiff, Nat.reduceAdd, Nat.reduceMul, Nat.reduceSub, Nat.reduceLeDiff, Nat.reduceBEq, Entry.enc])⟩
                · intro _ hd _
                  rw [List.take_length]
                  have hz : ((total X : Int) - (total rows : Int)) = (e.senses.length : Int) := by omega
                  (repeat' (first | (refine dw_seq ?_) | (refine dw_block ?_) | ((first | (refine dw_reg (N := 126) rfl (by kernel_rfl) ?_) | (apply dw_drw (id := 9) (N := 126) [(0, .light), (1, .light), (2, .light), (3, .light), (4, .light), (5, .light), (6, .light), (7, .light), (8, .light), (9, .light), (10, .light), (11, .light)]; kernel_rfl; rfl; kernel_rfl; (repeat (first | exact Picks.nil | (apply Picks.cons; rfl)))) | (refine dw_skip ?_) | (refine dw_exit ?_) | (refine CallC.mk (kX) (LeL.of_eq rfl) ?_) | (refine CallC.light (kX) (LeL.of_eq rfl) ?_) | (refine CallC.mk (ku2) (LeL.of_eq rfl) ?_) | (refine CallC.light (ku2) (LeL.of_eq rfl) ?_) | (refine CallC.mk (ks1) (LeL.of_eq rfl) ?_) | (refine CallC.light (ks1) (LeL.of_eq rfl) ?_) | (refine CallC.mk (ku3) (LeL.of_eq rfl) ?_) | (refine CallC.light (ku3) (LeL.of_eq rfl) ?_) | (refine CallC.mk (ks2) (LeL.of_eq rfl) ?_) | (refine CallC.light (ks2) (LeL.of_eq rfl) ?_) | (refine CallC.mk (awake_D) (LeL.of_eq rfl) ?_) | (refine CallC.light (awake_D) (LeL.of_eq rfl) ?_) | (refine dw_ret ?_)); simp (decide := true) only [go_sem, reduceIte, reduceCtorEq, Nat.reduceEqDiff, Nat.reduceAdd, Nat.reduceMul, Nat.reduceSub, Nat.reduceLeDiff, Nat.reduceBEq, hd, hz, Entry.enc]) | (apply dw_cond; (simp (decide := true) only [go_sem, reduceIte, reduceCtorEq, Nat.reduceEqDiff, Nat.reduceAdd, Nat.reduceMul, Nat.reduceSub, Nat.reduceLeDiff, Nat.reduceBEq, hd, hz, Entry.enc]; rfl); all_goals (intro hcnd; first | (exact absurd hcnd (by decide)) | skip)) | ((first | refine guardC_f ?_ ?_ | refine guardC_t ?_ ?_) <;> (intro hcnd; simp (decide := true) only [go_sem, reduceIte, reduceCtorEq, Nat.reduceEqDiff, Nat.reduceAdd, Nat.reduceMul, Nat.reduceSub, Nat.reduceLeDiff, Nat.reduceBEq, hcnd, hd, hz, Entry.enc]))))
end Go.Proofs.Ytffcabenoakmgaa

/- The statements about reversals. For every input the law returns true. -/
namespace Go.Proofs.Ytffcabenoakmgaa
open Go.ChangeShapes Go.WideShapes Go.ChangeAt Go.RowKit
open Go.ChangeMaps (open_string shut_string)
open Go.Dl (Sh Val)

theorem Try.own : ownKnob Try.prog.godebug = none := by kernel_rfl
theorem Try.laidOut : laidOutB Try.prog = true := by kernel_rfl

def shInt : Sh := .int .i64
def shPart : Sh := .cons shInt (.cons shInt (.cons shInt .nil))
def shRow : Sh := .cons .str (.cons (.sl 3 shPart) .nil)
def shSense : Sh := .cons .str (.cons .str .nil)
def shTwo : Sh := .cons shInt (.cons shInt .nil)
def shEntry : Sh := .cons shInt (.cons (.sl 1 shInt) (.cons shInt (.cons (.sl 1 (.sl 1 shInt)) (.cons shInt (.cons (.sl 2 shSense) (.cons (.sl 2 shTwo) (.cons (.sl 2 shTwo) .nil)))))))

def Part.ofVal (v : Val shPart) : Part := ⟨v.1, v.2.1, v.2.2.1⟩
theorem Part.ofVal_enc (v : Val shPart) : (Part.ofVal v).enc = shPart.enc v := rfl
def Row.ofVal (v : Val shRow) : Row := ⟨v.1, List.map Part.ofVal v.2.1⟩
theorem partL_enc (l : List (Val shPart)) : List.map Part.enc (List.map Part.ofVal l) = List.map (Sh.enc shPart) l := by rw [List.map_map]; rfl
theorem Row.ofVal_enc (v : Val shRow) : (Row.ofVal v).enc = shRow.enc v := congrArg (fun l => [Go.Dl.C.lit (.string v.1), Go.Dl.C.sl 3 l]) (partL_enc v.2.1)
def Sense.ofVal (v : Val shSense) : Sense := ⟨v.1, v.2.1⟩
theorem Sense.ofVal_enc (v : Val shSense) : (Sense.ofVal v).enc = shSense.enc v := rfl
def Entry.ofVal (v : Val shEntry) : Entry := ⟨v.1, List.map (Sh.enc shInt) v.2.1, .lit (.int .i64 v.2.2.1), List.map (fun a => List.map (Sh.enc shInt) a) v.2.2.2.1, .lit (.int .i64 v.2.2.2.2.1), List.map Sense.ofVal v.2.2.2.2.2.1, List.map (Sh.enc shTwo) v.2.2.2.2.2.2.1, List.map (Sh.enc shTwo) v.2.2.2.2.2.2.2.1⟩
theorem senseL_enc (l : List (Val shSense)) : List.map Sense.enc (List.map Sense.ofVal l) = List.map (Sh.enc shSense) l := by rw [List.map_map]; rfl
theorem altL_enc (l : List (List Int)) : List.map (fun a : List (List Go.Dl.C) => [Go.Dl.C.sl 1 a]) (List.map (fun a : List Int => List.map (Sh.enc shInt) a) l) = List.map (fun a : List Int => [Go.Dl.C.sl 1 (List.map (Sh.enc shInt) a)]) l := by rw [List.map_map]; rfl
theorem Entry.ofVal_enc (v : Val shEntry) : (Entry.ofVal v).enc = shEntry.enc v :=
  (congrArg (fun l => [Go.Dl.C.lit (.int .i64 v.1), Go.Dl.C.sl 1 (List.map (Sh.enc shInt) v.2.1), Go.Dl.C.lit (.int .i64 v.2.2.1), Go.Dl.C.sl 1 l, Go.Dl.C.lit (.int .i64 v.2.2.2.2.1), Go.Dl.C.sl 2 (List.map Sense.enc (List.map Sense.ofVal v.2.2.2.2.2.1)), Go.Dl.C.sl 2 (List.map (Sh.enc shTwo) v.2.2.2.2.2.2.1), Go.Dl.C.sl 2 (List.map (Sh.enc shTwo) v.2.2.2.2.2.2.2.1)]) (altL_enc v.2.2.2.1)).trans
  (congrArg (fun l => [Go.Dl.C.lit (.int .i64 v.1), Go.Dl.C.sl 1 (List.map (Sh.enc shInt) v.2.1), Go.Dl.C.lit (.int .i64 v.2.2.1), Go.Dl.C.sl 1 (List.map (fun a : List Int => [Go.Dl.C.sl 1 (List.map (Sh.enc shInt) a)]) v.2.2.2.1), Go.Dl.C.lit (.int .i64 v.2.2.2.2.1), Go.Dl.C.sl 2 l, Go.Dl.C.sl 2 (List.map (Sh.enc shTwo) v.2.2.2.2.2.2.1), Go.Dl.C.sl 2 (List.map (Sh.enc shTwo) v.2.2.2.2.2.2.2.1)]) (senseL_enc v.2.2.2.2.2.1))

theorem rows_enc (l : List (Val shRow)) : List.map (Sh.enc shRow) l = (List.map Row.ofVal l).map Row.enc := by
  rw [List.map_map]; exact List.map_congr_left fun v _ => (Row.ofVal_enc v).symm
theorem entries_enc (l : List (Val shEntry)) : List.map (Sh.enc shEntry) l = (List.map Entry.ofVal l).map Entry.enc := by
  rw [List.map_map]; exact List.map_congr_left fun v _ => (Entry.ofVal_enc v).symm
theorem rows_arg (l : List (Val shRow)) : Go.Dl.ArgD (.sl 2 shRow) l = dv (.sl 2 ((List.map Row.ofVal l).map Row.enc)) := by rw [← rows_enc]; rfl
theorem entries_arg (l : List (Val shEntry)) : Go.Dl.ArgD (.sl 8 shEntry) l = dv (.sl 8 ((List.map Entry.ofVal l).map Entry.enc)) := by rw [← entries_enc]; rfl
theorem entry_arg (v : Val shEntry) : Go.Dl.ArgD shEntry v = .agg ((Entry.ofVal v).enc.map Go.Dl.T.c) := by rw [Entry.ofVal_enc]; rfl

theorem rowsVD {w : World} {E : Go.Dl.Env} {v : Value} (l : List (Val shRow)) (h : Go.Dl.VD w E (Go.Dl.ArgD (.sl 2 shRow) l) v) : Go.Dl.VD w E (dv (.sl 2 ((List.map Row.ofVal l).map Row.enc))) v := by rw [← rows_arg]; exact h
theorem entriesVD {w : World} {E : Go.Dl.Env} {v : Value} (l : List (Val shEntry)) (h : Go.Dl.VD w E (Go.Dl.ArgD (.sl 8 shEntry) l) v) : Go.Dl.VD w E (dv (.sl 8 ((List.map Entry.ofVal l).map Entry.enc))) v := by rw [← entries_arg]; exact h
theorem entryVD {w : World} {E : Go.Dl.Env} {v : Value} (x : Val shEntry) (h : Go.Dl.VD w E (Go.Dl.ArgD shEntry x) v) : Go.Dl.VD w E (.agg ((Entry.ofVal x).enc.map Go.Dl.T.c)) v := by rw [← entry_arg]; exact h
theorem lenOf {n : Nat} {s : Sh} {β : Type} {f : Val s → β} {l : List (Val s)} (h : (Sh.sl n s).ok l) : (List.map f l).length ≤ maxLen := by rw [List.length_map]; exact h.1

theorem read1 {w : World} {K} {d0 : Go.Dl.D} {v0 : Value} (h0 : Go.Dl.VD w K d0 v0) : ∀ (j : Nat) d v, [d0][j]? = some d → #[v0][j]? = some v → Go.Dl.VD w K d v := fun j d v h1 h2 => by
  match j with
  | 0 => simp at h1 h2; subst h1; subst h2; exact h0
  | j + 1 => simp at h1
theorem read2 {w : World} {K} {d0 d1 : Go.Dl.D} {v0 v1 : Value} (h0 : Go.Dl.VD w K d0 v0) (h1 : Go.Dl.VD w K d1 v1) : ∀ (j : Nat) d v, [d0, d1][j]? = some d → #[v0, v1][j]? = some v → Go.Dl.VD w K d v := fun j d v g1 g2 => by
  match j with
  | 0 => simp at g1 g2; subst g1; subst g2; exact h0
  | 1 => simp at g1 g2; subst g1; subst g2; exact h1
  | j + 2 => simp at g1
theorem read3 {w : World} {K} {d0 d1 d2 : Go.Dl.D} {v0 v1 v2 : Value} (h0 : Go.Dl.VD w K d0 v0) (h1 : Go.Dl.VD w K d1 v1) (h2 : Go.Dl.VD w K d2 v2) : ∀ (j : Nat) d v, [d0, d1, d2][j]? = some d → #[v0, v1, v2][j]? = some v → Go.Dl.VD w K d v := fun j d v g1 g2 => by
  match j with
  | 0 => simp at g1 g2; subst g1; subst g2; exact h0
  | 1 => simp at g1 g2; subst g1; subst g2; exact h1
  | 2 => simp at g1 g2; subst g1; subst g2; exact h2
  | j + 3 => simp at g1

end Go.Proofs.Ytffcabenoakmgaa
