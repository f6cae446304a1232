/- The logic of data over the kit's walk, and contracts of the functions that the laws reach, each said by plain data; part 6 of 6. -/
import Derived.Test.YtiaamlaibfpdgaaDoorm4
set_option linter.all false
set_option linter.unusedVariables false
set_option linter.unusedSimpArgs false
open Nat renaming reduceEqDiff → jA, reduceAdd → jB, reduceMul → jC, reduceSub → jD, reduceLeDiff → jE, reduceBEq → jF
/- References in order: plain. -/
namespace Go.Proofs.YtiaamlaibfpdgaaDoor
open Go.Dl
open Go.Dl renaming dw_seq → kA, dw_block → kB, dw_reg → kC, dw_skip → kD, dw_exit → kE, dw_ret → kF, dw_cond → kG, guardC_f → kH, guardC_t → kI, dw_drw → kJ, dw_weaken → kK, sub_kn → kL, sub_ml → kM
open Go.Dl.CallC renaming mk → kN, light → kO
open Go.Dl.LeL renaming of_eq → kP
theorem less_tr {a b c : Lnk} (h : lessL a b = true) (h2 : lessL b c = true) : lessL a c = true := by
  simp [lessL] at *; omega
theorem less_ir (a : Lnk) : lessL a a = false := by simp [lessL]
theorem less_as {a b : Lnk} (h : lessL a b = true) : lessL b a = false := by
  simp [lessL] at *; omega
theorem less_tri {a b : Lnk} (h : lessL a b = false) (h2 : lessL b a = false) : a = b := by
  cases a; cases b; simp [lessL] at *; omega

def Srt (l : List Lnk) : Prop := (∀ x ∈ l, okRef x = true) ∧ l.Pairwise fun a b => lessL a b = true
theorem refL_iff : ∀ (l : List Lnk) (p : Option Lnk), refL p l = 0 ↔ Srt l ∧ ∀ y, p = some y → ∀ x ∈ l, lessL y x = true
  | [], p => by simp [refL, Srt]
  | x :: l, p => by
    have ih := refL_iff l (some x)
    have hE : refE p x = 0 ↔ okRef x = true ∧ ∀ y, p = some y → lessL y x = true := by
      unfold refE
      cases ho : okRef x <;> cases p <;> simp [badP]
    rw [refL]
    by_cases hx : refE p x = 0
    · rw [if_neg (by simpa using hx), ih]
      obtain ⟨h1, h2⟩ := hE.1 hx
      simp only [Srt, List.mem_cons, List.pairwise_cons, forall_eq_or_imp]
      constructor
      · rintro ⟨⟨a, b⟩, c⟩
        exact ⟨⟨⟨h1, a⟩, c x rfl, b⟩, fun y hy => ⟨h2 y hy, fun z hz => less_tr (h2 y hy) (c x rfl z hz)⟩⟩
      · rintro ⟨⟨⟨_, a⟩, c, b⟩, d⟩
        exact ⟨⟨a, b⟩, fun y hy => by injection hy with hy; subst hy; exact c⟩
    · rw [if_pos (by simpa using hx)]
      constructor
      · intro h; exact absurd h hx
      · rintro ⟨⟨h1, h2⟩, h3⟩
        exact absurd (hE.2 ⟨h1 x (by simp), fun y hy => h3 y hy x (by simp)⟩) hx
theorem refsE_iff (l : List Lnk) : refsE l = 0 ↔ l.length ≤ 12 ∧ Srt l := by
  rw [refsE]
  by_cases h : 12 < l.length
  · rw [if_pos h]; constructor
    · intro h; exact absurd h (by decide)
    · rintro ⟨h1, _⟩; omega
  · rw [if_neg h, refL_iff]
    constructor
    · rintro ⟨h1, _⟩; exact ⟨by omega, h1⟩
    · rintro ⟨_, h1⟩; exact ⟨h1, fun y hy => by cases hy⟩

theorem bsF_low (l : List Lnk) (x : Lnk) (hs : l.Pairwise fun a b => lessL a b = true) : ∀ n i j, j ≤ l.length → i ≤ j → j - i ≤ n → (∀ k, k < i → ∀ y, l[k]? = some y → lessL y x = true) → (∀ k, j ≤ k → ∀ y, l[k]? = some y → lessL y x = false) →
    (∀ k, k < bsF l x n i j → ∀ y, l[k]? = some y → lessL y x = true) ∧ (∀ k, bsF l x n i j ≤ k → ∀ y, l[k]? = some y → lessL y x = false)
  | 0, i, j, hj, hij, hn, h1, h2 => by
    simp only [bsF]
    exact ⟨h1, fun k hk => h2 k (by omega)⟩
  | n + 1, i, j, hj, hij, hn, h1, h2 => by
    unfold bsF
    by_cases hlt : i < j
    · rw [if_pos hlt]
      have hm : (i + j) / 2 < l.length := by omega
      have hx : l[(i + j) / 2]? = some l[(i + j) / 2] := List.getElem?_eq_getElem hm
      rw [hx]; simp only
      by_cases hl : lessL l[(i + j) / 2] x = true
      · rw [if_pos hl]
        refine bsF_low l x hs n _ j hj (by omega) (by omega) (fun k hk y hy => ?_) h2
        by_cases hk2 : k = (i + j) / 2
        · subst hk2; rw [hx] at hy; injection hy with hy; subst hy; exact hl
        · obtain ⟨hkl, hke⟩ := List.getElem?_eq_some_iff.1 hy
          have := List.pairwise_iff_getElem.1 hs k ((i + j) / 2) hkl hm (by omega)
          rw [hke] at this
          exact less_tr this hl
      · rw [if_neg hl]
        have hl' : lessL l[(i + j) / 2] x = false := by simpa using hl
        refine bsF_low l x hs n i _ (by omega) (by omega) (by omega) h1 (fun k hk y hy => ?_)
        by_cases hk2 : k = (i + j) / 2
        · subst hk2; rw [hx] at hy; injection hy with hy; subst hy; exact hl'
        · obtain ⟨hkl, hke⟩ := List.getElem?_eq_some_iff.1 hy
          have := List.pairwise_iff_getElem.1 hs ((i + j) / 2) k hm hkl (by omega)
          rw [hke] at this
          cases hc : lessL y x
          · rfl
          · rw [less_tr this hc] at hl'; exact absurd hl' (by decide)
    · rw [if_neg hlt]
      exact ⟨h1, fun k hk => h2 k (by omega)⟩
theorem lowB_low (l : List Lnk) (x : Lnk) (hs : l.Pairwise fun a b => lessL a b = true) : (∀ y ∈ l.take (lowB l x), lessL y x = true) ∧ ∀ y ∈ l.drop (lowB l x), lessL y x = false := by
  obtain ⟨h1, h2⟩ := bsF_low l x hs l.length 0 l.length (Nat.le_refl _) (Nat.zero_le _) (by omega) (fun k hk => absurd hk (by omega)) (fun k hk y hy => by rw [List.getElem?_eq_none hk] at hy; cases hy)
  constructor
  · intro y hy
    obtain ⟨k, hk⟩ := List.getElem?_of_mem hy
    rw [List.getElem?_take] at hk
    split at hk
    · rename_i hlt; exact h1 k hlt y hk
    · cases hk
  · intro y hy
    obtain ⟨k, hk⟩ := List.getElem?_of_mem hy
    rw [List.getElem?_drop] at hk
    exact h2 _ (Nat.le_add_right _ _) y hk

def wo (l : List Lnk) (x : Lnk) (b : Bool) : List Lnk := l.filter fun y => decide (y ≠ x) && (lessL y x == b)
theorem wo_split (l : List Lnk) (x : Lnk) (i : Nat) (h1 : ∀ y ∈ l.take i, lessL y x = true) (h2 : ∀ y ∈ l.drop i, lessL y x = false) :
    wo l x true = l.take i ∧ wo l x false = (l.drop i).filter fun y => decide (y ≠ x) := by
  have ne : ∀ y, lessL y x = true → y ≠ x := fun y h e => by rw [e, less_ir] at h; exact absurd h (by decide)
  constructor
  · conv => lhs; rw [wo, ← List.take_append_drop i l, List.filter_append]
    rw [List.filter_eq_self.2 (fun y hy => by simp [h1 y hy, ne y (h1 y hy)]), List.filter_eq_nil_iff.2 (fun y hy => by simp [h2 y hy]), List.append_nil]
  · conv => lhs; rw [wo, ← List.take_append_drop i l, List.filter_append]
    rw [List.filter_eq_nil_iff.2 (fun y hy => by simp [h1 y hy]), List.nil_append]
    exact List.filter_congr fun y hy => by simp [h2 y hy]
theorem wo_new {l : List Lnk} {x : Lnk} (hs : l.Pairwise fun a b => lessL a b = true) (hx : hasR l x = false) : wo l x true ++ [x] ++ wo l x false = withB l x := by
  obtain ⟨h1, h2⟩ := lowB_low l x hs
  obtain ⟨e1, e2⟩ := wo_split l x _ h1 h2
  have nm : ∀ y ∈ l, y ≠ x := fun y hy e => by
    have : hasR l x = true := List.any_eq_true.2 ⟨y, hy, by simp [e]⟩
    rw [hx] at this; exact absurd this (by decide)
  rw [e1, e2, List.filter_eq_self.2 (fun y hy => by simp [nm y (List.mem_of_mem_drop hy)])]
  simp [withB, putAt]
theorem wo_old {l : List Lnk} {x : Lnk} (hs : l.Pairwise fun a b => lessL a b = true) (hx : hasR l x = true) : ∃ k : Nat, idxF (fun y => decide (x = y)) l = (k : Int) ∧ l[k]? = some x ∧ wo l x true = l.take k ∧ wo l x false = l.drop (k + 1) := by
  obtain ⟨y, hy, he⟩ := List.any_eq_true.1 hx
  have he : x = y := by simpa using he
  subst he
  obtain ⟨k, hk, hke⟩ := List.getElem_of_mem hy
  have hlt : ∀ y ∈ l.take k, lessL y x = true := fun y hy => by
    obtain ⟨j, hj, rfl⟩ := List.getElem_of_mem hy
    have hjk : j < k := by simp at hj; omega
    rw [List.getElem_take]
    have := List.pairwise_iff_getElem.1 hs j k (by omega) hk hjk
    rwa [hke] at this
  have hgt : ∀ y ∈ l.drop (k + 1), lessL x y = true := fun y hy => by
    obtain ⟨j, hj, rfl⟩ := List.getElem_of_mem hy
    rw [List.getElem_drop]
    have hj2 : j < l.length - (k + 1) := by simpa using hj
    have := List.pairwise_iff_getElem.1 hs k (k + 1 + j) hk (by omega) (by omega)
    rwa [hke] at this
  have hd : l.drop k = x :: l.drop (k + 1) := by rw [List.drop_eq_getElem_cons hk, hke]
  have ne : ∀ y, lessL y x = true → ¬ x = y := fun y h e => by rw [← e, less_ir] at h; exact absurd h (by decide)
  have ne2 : ∀ y, lessL x y = true → ¬ y = x := fun y h e => by rw [e, less_ir] at h; exact absurd h (by decide)
  obtain ⟨e1, e2⟩ := wo_split l x k hlt (fun y hy => by
    rw [hd] at hy
    rcases List.mem_cons.1 hy with rfl | hy
    · exact less_ir _
    · exact less_as (hgt y hy))
  refine ⟨k, ?_, by rw [List.getElem?_eq_getElem hk, hke], e1, ?_⟩
  · have ha : l.any (fun y => decide (x = y)) = true := List.any_eq_true.2 ⟨x, hy, by simp⟩
    rw [idxF, ha, if_pos rfl]
    congr 1
    rw [List.findIdx_eq hk]
    refine ⟨by simp [hke], fun j hj => ?_⟩
    have := hlt l[j] (by rw [List.mem_iff_getElem]; exact ⟨j, by simp; omega, by simp⟩)
    simpa using ne _ this
  · rw [e2, hd, List.filter_cons_of_neg (by simp)]
    rw [List.filter_eq_self.2 fun y hy => by simpa using ne2 y (hgt y hy)]
theorem wo_none {l : List Lnk} {x : Lnk} (hx : hasR l x = false) : (wo l x true ++ wo l x false).length = l.length := by
  have nm : ∀ y ∈ l, y ≠ x := fun y hy e => by
    have : hasR l x = true := List.any_eq_true.2 ⟨y, hy, by simp [e]⟩
    rw [hx] at this; exact absurd this (by decide)
  have : ∀ l : List Lnk, (∀ y ∈ l, y ≠ x) → (wo l x true ++ wo l x false).length = l.length := fun l => by
    induction l with
    | nil => intro _; rfl
    | cons a l ih =>
      intro h
      have h1 := ih fun y hy => h y (by simp [hy])
      have h2 := h a (by simp)
      simp only [wo, List.length_append] at h1 ⊢
      cases hl : lessL a x <;> simp [h2, hl] <;> simp at h1 <;> omega
  exact this l nm

theorem srt_with {l : List Lnk} {x : Lnk} (hs : Srt l) (ho : okRef x = true) (hx : hasR l x = false) : Srt (withB l x) := by
  obtain ⟨h1, h2⟩ := lowB_low l x hs.2
  have nm : ∀ y ∈ l, y ≠ x := fun y hy e => by
    have : hasR l x = true := List.any_eq_true.2 ⟨y, hy, by simp [e]⟩
    rw [hx] at this; exact absurd this (by decide)
  have gt : ∀ y ∈ l.drop (lowB l x), lessL x y = true := fun y hy => by
    cases hc : lessL x y
    · exact absurd (less_tri (h2 y hy) hc) (nm y (List.mem_of_mem_drop hy))
    · rfl
  constructor
  · intro y hy
    simp only [withB, putAt, List.mem_append, List.mem_cons] at hy
    rcases hy with hy | rfl | hy
    · exact hs.1 y (List.mem_of_mem_take hy)
    · exact ho
    · exact hs.1 y (List.mem_of_mem_drop hy)
  · rw [withB, putAt, List.pairwise_append, List.pairwise_cons]
    refine ⟨hs.2.sublist (List.take_sublist _ _), ⟨gt, hs.2.sublist (List.drop_sublist _ _)⟩, fun a ha b hb => ?_⟩
    rcases List.mem_cons.1 hb with rfl | hb
    · exact h1 a ha
    · exact less_tr (h1 a ha) (gt b hb)
theorem srt_del {l : List Lnk} (hs : Srt l) (k : Nat) : Srt (l.take k ++ l.drop (k + 1)) := by
  have hsub : (l.take k ++ l.drop (k + 1)).Sublist l := by
    conv => rhs; rw [← List.take_append_drop k l]
    exact (List.Sublist.refl _).append (by rw [← List.drop_drop]; exact List.drop_sublist _ _)
  exact ⟨fun y hy => hs.1 y (hsub.subset hy), hs.2.sublist hsub⟩
theorem with_len (l : List Lnk) (x : Lnk) : (withB l x).length = l.length + 1 := by
  simp only [withB, putAt, List.length_append, List.length_cons, List.length_take, List.length_drop]; omega
theorem with_has (l : List Lnk) (x : Lnk) : hasR (withB l x) x = true := List.any_eq_true.2 ⟨x, by simp [withB, putAt], by simp⟩
theorem low_at {l : List Lnk} {x : Lnk} (hs : l.Pairwise fun a b => lessL a b = true) {k : Nat} (hk : k ≤ l.length) (h1 : ∀ y ∈ l.take k, lessL y x = true) (h2 : ∀ y ∈ l.drop k, lessL y x = false) : lowB l x = k := by
  obtain ⟨g1, g2⟩ := lowB_low l x hs
  have hle : lowB l x ≤ l.length := by
    by_cases h : lowB l x ≤ l.length
    · exact h
    · exfalso
      have key : ∀ n i j, i ≤ j → j ≤ l.length → bsF l x n i j ≤ l.length := fun n => by
        induction n with
        | zero => intro i j h1 h2; simp only [bsF]; omega
        | succ n ih =>
          intro i j h1 h2
          unfold bsF
          split
          · split
            · split
              · exact ih _ _ (by omega) h2
              · exact ih _ _ (by omega) (by omega)
            · omega
          · omega
      exact h (key _ _ _ (Nat.zero_le _) (Nat.le_refl _))
  rcases Nat.lt_trichotomy (lowB l x) k with h | h | h
  · have hi : lowB l x < l.length := by omega
    have a := h1 l[lowB l x] (by rw [List.mem_iff_getElem]; exact ⟨lowB l x, by simp; omega, by simp⟩)
    have b := g2 l[lowB l x] (List.mem_iff_getElem.2 ⟨0, by simp; omega, by simp⟩)
    rw [a] at b; exact absurd b (by decide)
  · exact h
  · have hi : k < l.length := by omega
    have a := g1 l[k] (by rw [List.mem_iff_getElem]; exact ⟨k, by simp; omega, by simp⟩)
    have b := h2 l[k] (List.mem_iff_getElem.2 ⟨0, by simp; omega, by simp⟩)
    rw [a] at b; exact absurd b (by decide)
theorem del_with {l : List Lnk} {x : Lnk} (hs : Srt l) (hx : hasR l x = false) : idxF (fun y => decide (x = y)) (withB l x) = ((lowB l x : Nat) : Int) ∧ (withB l x).take (lowB l x) ++ (withB l x).drop (lowB l x + 1) = l := by
  have nm : ∀ y ∈ l, y ≠ x := fun y hy e => by
    have : hasR l x = true := List.any_eq_true.2 ⟨y, hy, by simp [e]⟩
    rw [hx] at this; exact absurd this (by decide)
  obtain ⟨g1, g2⟩ := lowB_low l x hs.2
  have hle : lowB l x ≤ l.length := by
    by_cases h : lowB l x ≤ l.length
    · exact h
    · have e : lowB l x = l.length := low_at hs.2 (Nat.le_refl _) (fun y hy => g1 y (by rw [List.take_of_length_le (by omega)]; rwa [List.take_length] at hy)) (fun y hy => by rw [List.drop_length] at hy; cases hy)
      omega
  have hlen : (l.take (lowB l x)).length = lowB l x := by rw [List.length_take]; omega
  refine ⟨?_, ?_⟩
  · have ha : (withB l x).any (fun y => decide (x = y)) = true := List.any_eq_true.2 ⟨x, by simp [withB, putAt], by simp⟩
    rw [idxF, ha, if_pos rfl]
    congr 1
    have hf : (l.take (lowB l x)).findIdx (fun y => decide (x = y)) = lowB l x := by
      rw [List.findIdx_eq_length_of_false (fun y hy => by simpa using fun e => nm y (List.mem_of_mem_take hy) e.symm), hlen]
    rw [withB, putAt, List.findIdx_append, hf, hlen]
    simp [List.findIdx_cons]
  · have h1 : (withB l x).take (lowB l x) = l.take (lowB l x) := by
      rw [withB, putAt, List.take_append_of_le_length (by omega), List.take_of_length_le (by omega)]
    have h2 : (withB l x).drop (lowB l x + 1) = l.drop (lowB l x) := by
      rw [withB, putAt, List.drop_append, hlen, List.drop_eq_nil_of_le (by omega)]
      simp [show lowB l x + 1 - lowB l x = 1 by omega]
    rw [h1, h2, List.take_append_drop]
theorem with_del {l : List Lnk} {x : Lnk} (hs : Srt l) {k : Nat} (hk : l[k]? = some x) : hasR (l.take k ++ l.drop (k + 1)) x = false ∧ withB (l.take k ++ l.drop (k + 1)) x = l := by
  obtain ⟨hkl, hke⟩ := List.getElem?_eq_some_iff.1 hk
  have hlt : ∀ y ∈ l.take k, lessL y x = true := fun y hy => by
    obtain ⟨j, hj, rfl⟩ := List.getElem_of_mem hy
    have hjk : j < k := by simp at hj; omega
    rw [List.getElem_take]
    have := List.pairwise_iff_getElem.1 hs.2 j k (by omega) hkl hjk
    rwa [hke] at this
  have hgt : ∀ y ∈ l.drop (k + 1), lessL x y = true := fun y hy => by
    obtain ⟨j, hj, rfl⟩ := List.getElem_of_mem hy
    rw [List.getElem_drop]
    have hj2 : j < l.length - (k + 1) := by simpa using hj
    have := List.pairwise_iff_getElem.1 hs.2 k (k + 1 + j) hkl (by omega) (by omega)
    rwa [hke] at this
  have hlen : (l.take k).length = k := by rw [List.length_take]; omega
  have hT : (l.take k ++ l.drop (k + 1)).take k = l.take k := by
    rw [List.take_append_of_le_length (by omega), List.take_of_length_le (by omega)]
  have hD : (l.take k ++ l.drop (k + 1)).drop k = l.drop (k + 1) := by
    rw [List.drop_append, hlen, List.drop_eq_nil_of_le (by omega)]; simp
  have hlow : lowB (l.take k ++ l.drop (k + 1)) x = k := low_at (srt_del hs k).2 (by rw [List.length_append, hlen]; omega) (by rw [hT]; exact hlt) (by rw [hD]; exact fun y hy => less_as (hgt y hy))
  refine ⟨?_, ?_⟩
  · cases h : hasR (l.take k ++ l.drop (k + 1)) x
    · rfl
    · obtain ⟨y, hy, he⟩ := List.any_eq_true.1 h
      have he : x = y := by simpa using he
      subst he
      rcases List.mem_append.1 hy with h | h
      · have := hlt x h; rw [less_ir] at this; exact absurd this (by decide)
      · have := hgt x h; rw [less_ir] at this; exact absurd this (by decide)
  · rw [withB, putAt, hlow, hT, hD, ← hke, ← List.drop_eq_getElem_cons hkl, List.take_append_drop]
theorem has_iff (l : List Lnk) (x : Lnk) : hasR l x = true ↔ x ∈ l := by
  simp [hasR]
end Go.Proofs.YtiaamlaibfpdgaaDoor

/- Right entries with a sense more: plain. -/
namespace Go.Proofs.YtiaamlaibfpdgaaDoor
open Go.Dl
open Go.Dl renaming dw_seq → kA, dw_block → kB, dw_reg → kC, dw_skip → kD, dw_exit → kE, dw_ret → kF, dw_cond → kG, guardC_f → kH, guardC_t → kI, dw_drw → kJ, dw_weaken → kK, sub_kn → kL, sub_ml → kM
open Go.Dl.CallC renaming mk → kN, light → kO
open Go.Dl.LeL renaming of_eq → kP
theorem sensL_snoc (s : Sns) : ∀ (l seen : List Sns), sensL seen l = 0 → sensL seen (l ++ [s]) = senseE (seen ++ l) s
  | [], seen, _ => by
    simp only [List.nil_append, sensL, List.append_nil]
    split
    · rfl
    · rename_i h; simpa using (by simpa using h : senseE seen s = 0).symm
  | a :: l, seen, h => by
    rw [sensL] at h
    by_cases h1 : senseE seen a = 0
    · rw [if_neg (by simpa using h1)] at h
      rw [List.cons_append, sensL, if_neg (by simpa using h1), sensL_snoc s l _ h]; simp
    · rw [if_pos h1] at h; exact absurd h h1
theorem check_parts {g : List Phon} {e : Ent} (h : checkE g e = 0) : ident e.id = true ∧ formsE g e = 0 ∧ sensesE e = 0 ∧ linksE e = 0 ∧ refsE e.refs = 0 := by
  unfold checkE at h
  cases h0 : ident e.id
  · rw [if_pos h0] at h; exact absurd h (by decide)
  rw [if_neg (by rw [h0]; decide)] at h
  by_cases h1 : formsE g e = 0
  · rw [if_neg (by simpa using h1)] at h
    by_cases h2 : sensesE e = 0
    · rw [if_neg (by simpa using h2)] at h
      by_cases h3 : linksE e = 0
      · rw [if_neg (by simpa using h3)] at h
        exact ⟨rfl, h1, h2, h3, h⟩
      · rw [if_pos h3] at h; exact absurd h h3
    · rw [if_pos h2] at h; exact absurd h h2
  · rw [if_pos h1] at h; exact absurd h h1
theorem check_of {g : List Phon} {e : Ent} (h0 : ident e.id = true) (h1 : formsE g e = 0) (h2 : sensesE e = 0) (h3 : linksE e = 0) (h4 : refsE e.refs = 0) : checkE g e = 0 := by
  unfold checkE
  rw [if_neg (by rw [h0]; decide), if_neg (by simpa using h1), if_neg (by simpa using h2), if_neg (by simpa using h3), h4]
theorem senses_parts {e : Ent} (h : sensesE e = 0) : (e.main ≠ 0 → ident e.main = true) ∧ e.main ≠ e.id ∧ e.senses.length ≤ 5 ∧ (e.senses.length = 0 → e.main ≠ 0) ∧ sensL [] e.senses = 0 := by
  unfold sensesE at h
  split at h
  · exact absurd h (by decide)
  rename_i h0
  split at h
  · exact absurd h (by decide)
  rename_i h1
  split at h
  · exact absurd h (by decide)
  rename_i h2
  split at h
  · exact absurd h (by decide)
  rename_i h3
  refine ⟨fun hm => ?_, h1, by omega, fun hl hm => h3 ⟨hl, hm⟩, h⟩
  cases hi : ident e.main
  · exact absurd ⟨hm, hi⟩ h0
  · rfl
theorem senses_add {e : Ent} {s : Sns} (h : sensesE e = 0) (hl : e.senses.length < 5) (hs : senseE e.senses s = 0) : sensesE { e with senses := e.senses ++ [s] } = 0 := by
  obtain ⟨h1, h2, h3, h4, h5⟩ := senses_parts h
  unfold sensesE
  rw [if_neg (fun hh => by have := h1 hh.1; rw [this] at hh; exact absurd hh.2 (by decide)), if_neg h2, if_neg (by simp; omega), if_neg (by simp)]
  show sensL [] (e.senses ++ [s]) = 0
  rw [sensL_snoc s _ _ h5, List.nil_append, hs]
end Go.Proofs.YtiaamlaibfpdgaaDoor

/- What is changed stays right: plain. -/
namespace Go.Proofs.YtiaamlaibfpdgaaDoor
open Go.Dl
open Go.Dl renaming dw_seq → kA, dw_block → kB, dw_reg → kC, dw_skip → kD, dw_exit → kE, dw_ret → kF, dw_cond → kG, guardC_f → kH, guardC_t → kI, dw_drw → kJ, dw_weaken → kK, sub_kn → kL, sub_ml → kM
open Go.Dl.CallC renaming mk → kN, light → kO
open Go.Dl.LeL renaming of_eq → kP
theorem add_ok {g : List Phon} {e : Ent} {s : Sns} (h : checkE g e = 0) (ha : (addE e s).2 = 0) : checkE g (addE e s).1 = 0 ∧ (addE e s).1.senses = e.senses ++ [s] := by
  obtain ⟨h0, h1, h2, h3, h4⟩ := check_parts h
  unfold addE at ha ⊢
  by_cases n1 : 5 ≤ e.senses.length
  · rw [if_pos n1] at ha; exact absurd ha (by decide)
  rw [if_neg n1] at ha ⊢
  by_cases n2 : senseE e.senses s ≠ 0
  · rw [if_pos n2] at ha; exact absurd ha n2
  rw [if_neg n2]
  exact ⟨check_of h0 h1 (senses_add h2 (by omega) (by simpa using n2)) h3 h4, rfl⟩
theorem att_ok {g : List Phon} {e : Ent} {r : Lnk} (h : checkE g e = 0) (ha : (attE e r).2 = 0) : checkE g (attE e r).1 = 0 ∧ e.refs.length ≤ (attE e r).1.refs.length := by
  obtain ⟨h0, h1, h2, h3, h4⟩ := check_parts h
  unfold attE at ha ⊢
  by_cases n1 : okRef r = false
  · rw [if_pos n1] at ha; exact absurd ha (by decide)
  rw [if_neg n1] at ha ⊢
  by_cases n2 : hasR e.refs r = true
  · rw [if_pos n2]; exact ⟨h, Nat.le_refl _⟩
  · rw [if_neg n2] at ha ⊢
    by_cases n3 : 12 ≤ e.refs.length
    · rw [if_pos n3] at ha; exact absurd ha (by decide)
    rw [if_neg n3]
    obtain ⟨q1, q2⟩ := (refsE_iff e.refs).1 h4
    refine ⟨check_of h0 h1 h2 h3 ((refsE_iff _).2 ⟨?_, srt_with q2 (by simpa using n1) (by simpa using n2)⟩), ?_⟩
    · show (withB e.refs r).length ≤ 12
      rw [with_len]; omega
    · show e.refs.length ≤ (withB e.refs r).length
      rw [with_len]; omega
theorem forg_at {e : Ent} {r : Lnk} (hs : Srt e.refs) (hr : hasR e.refs r = true) : ∃ k, e.refs[k]? = some r ∧ forgE e r = ({ e with refs := e.refs.take k ++ e.refs.drop (k + 1) }, 0) := by
  obtain ⟨k, h1, h2, _, _⟩ := wo_old hs.2 hr
  refine ⟨k, h2, ?_⟩
  rw [forgE, h1, outE, if_neg (by omega)]
  simp
theorem forg_no {e : Ent} {r : Lnk} (hr : hasR e.refs r = false) : forgE e r = (noEnt, 9) := by
  have : idxF (fun y => decide (r = y)) e.refs = -1 := by
    unfold hasR at hr
    rw [idxF, hr]; rfl
  rw [forgE, this, outE, if_pos (by decide)]
theorem del_len {l : List Lnk} {k : Nat} {x : Lnk} (h : l[k]? = some x) : (l.take k ++ l.drop (k + 1)).length + 1 = l.length := by
  have := (List.getElem?_eq_some_iff.1 h).1
  simp only [List.length_append, List.length_take, List.length_drop]; omega
theorem forg_ok {g : List Phon} {e : Ent} {r : Lnk} (h : checkE g e = 0) (ha : (forgE e r).2 = 0) : checkE g (forgE e r).1 = 0 ∧ (forgE e r).1.refs.length + 1 = e.refs.length := by
  obtain ⟨h0, h1, h2, h3, h4⟩ := check_parts h
  obtain ⟨q1, q2⟩ := (refsE_iff e.refs).1 h4
  cases n2 : hasR e.refs r
  · rw [forg_no n2] at ha; exact absurd ha (by decide)
  obtain ⟨k, hk, e1⟩ := forg_at q2 n2
  rw [e1]
  have hl := del_len hk
  exact ⟨check_of h0 h1 h2 h3 ((refsE_iff _).2 ⟨by show (e.refs.take k ++ e.refs.drop (k + 1)).length ≤ 12; omega, srt_del q2 k⟩), hl⟩
end Go.Proofs.YtiaamlaibfpdgaaDoor

namespace Go.Proofs.YtiaamlaibfpdgaaDoor
abbrev kpm18 : List (Nat × Go.Dl.Mode) := [(0, .step), (1, .step), (2, .step), (3, .step), (4, .step), (5, .step), (6, .step), (7, .step), (8, .step), (9, .step), (10, .step), (11, .step), (12, .step), (13, .step), (14, .step), (15, .step), (16, .step), (17, .step), (18, .step), (19, .step), (20, .light), (21, .light), (22, .step), (23, .step), (24, .step), (25, .step), (26, .light), (27, .light), (28, .step), (29, .step), (30, .step), (31, .step), (32, .step), (33, .step), (34, .step), (35, .step), (36, .step), (37, .step), (38, .step), (39, .step), (40, .step), (41, .step), (42, .step), (43, .step), (44, .step), (45, .step), (46, .step), (47, .step), (48, .step), (49, .step), (50, .step), (51, .step), (52, .step), (53, .step), (54, .light), (55, .light), (56, .step), (57, .step), (58, .step), (59, .step), (60, .step), (61, .step), (62, .step), (63, .step), (64, .step), (65, .step), (66, .step), (67, .step), (68, .step), (69, .step), (70, .step), (71, .step), (72, .step), (73, .light), (74, .light), (75, .step), (76, .step), (77, .step), (78, .light), (79, .light), (80, .step), (81, .step), (82, .step), (83, .step), (84, .step), (85, .step), (86, .step), (87, .step), (88, .step), (89, .step)]
end Go.Proofs.YtiaamlaibfpdgaaDoor
/- Entries: the chapter's examples. -/
namespace Go.Proofs.YtiaamlaibfpdgaaDoor
open Go.Dl
open Go.Dl renaming dw_seq → kA, dw_block → kB, dw_reg → kC, dw_skip → kD, dw_exit → kE, dw_ret → kF, dw_cond → kG, guardC_f → kH, guardC_t → kI, dw_drw → kJ, dw_weaken → kK, sub_kn → kL, sub_ml → kM
open Go.Dl.CallC renaming mk → kN, light → kO
open Go.Dl.LeL renaming of_eq → kP
attribute [local irreducible] DW DCalls ECalls wk IW

def dogS : Sns := ⟨⟨#[100, 111, 103]⟩, ⟨#[97, 110, 32, 97, 110, 105, 109, 97, 108]⟩⟩
def hound : Sns := ⟨⟨#[104, 111, 117, 110, 100]⟩, ⟨#[]⟩⟩
def dog1 : Sns := ⟨⟨#[100, 111, 103]⟩, ⟨#[]⟩⟩
def samR : Ent := { samE with refs := [⟨1, 2⟩, ⟨1, 5⟩] }
def samS : Ent := { samE with senses := [dogS, hound] }
def samN : Ent := { samE with senses := [] }
def samM : Ent := { samE with senses := [], main := 7 }

theorem ex_att : attE samE ⟨1, 2⟩ = (samR, 0) := by decide +kernel
theorem ex_for : forgE samR ⟨1, 2⟩ = (samE, 0) := by decide +kernel
theorem ex_add : addE samE hound = (samS, 0) := by decide +kernel
theorem ex_add2 : addE samE dog1 = (noEnt, 8) := by decide +kernel
theorem ex_g1 : glossB ⟨#[51, 115, 103]⟩ = true := by decide +kernel
theorem ex_g2 : glossB ⟨#[99, 111, 109, 101, 32, 98, 97, 99, 107]⟩ = false := by decide +kernel
theorem ex_g3 : glossB ⟨#[117, 110, 45, 100, 111]⟩ = false := by decide +kernel
theorem ex_g4 : glossB ⟨#[]⟩ = false := by decide +kernel
theorem ex_c1 : checkE twoG samE = 0 := by decide +kernel
theorem ex_c2 : checkE twoG samN = 4 := by decide +kernel
theorem ex_c3 : checkE twoG samM = 0 := by decide +kernel
theorem ex_h1 : hasA (formsL samE) [2] = true := by decide +kernel
theorem ex_h2 : hasA (formsL samE) [1] = false := by decide +kernel

set_option maxRecDepth 20000 in
set_option maxHeartbeats 16000000 in
theorem awake_aux (e0 e1 e2 e3 e4 e5 e6 e7 r0 r1 r2 r3 r4 r5 r6 s0 s1 s2 s3 s4 s6 s7 z0 z1 z2 z3 z4 z5 z6 z7 g0 : Dl.C) (rs ss L : List (List Dl.C)) (hS : DCalls Tryd.prog 34 [] (.agg [.c e0, .c e1, .c e2, .c e3, .c e4, .c e5, .c e6, .c e7])) (h2 : DCalls Tryd.prog 20 [] (.agg [.c g0]))
    (a1 : DCalls Tryd.prog 30 [.agg [.c e0, .c e1, .c e2, .c e3, .c e4, .c e5, .c e6, .c e7], .agg [.c (li 1), .c (li 2)]] (.tup [.agg [.c r0, .c r1, .c r2, .c r3, .c r4, .c r5, .c r6, .c (.sl 2 rs)], dv (li 0)]))
    (a2 : DCalls Tryd.prog 31 [.agg [.c r0, .c r1, .c r2, .c r3, .c r4, .c r5, .c r6, .c (.sl 2 rs)], .agg [.c (li 1), .c (li 2)]] (.tup [.agg [.c e0, .c e1, .c e2, .c e3, .c e4, .c e5, .c e6, .c e7], dv (li 0)]))
    (a3 : DCalls Tryd.prog 26 [.agg [.c e0, .c e1, .c e2, .c e3, .c e4, .c e5, .c e6, .c e7], .agg [.c (ls ⟨#[104, 111, 117, 110, 100]⟩), .c (ls ⟨#[]⟩)]] (.tup [.agg [.c s0, .c s1, .c s2, .c s3, .c s4, .c (.sl 2 ss), .c s6, .c s7], dv (li 0)]))
    (a4 : DCalls Tryd.prog 26 [.agg [.c e0, .c e1, .c e2, .c e3, .c e4, .c e5, .c e6, .c e7], .agg [.c (ls ⟨#[100, 111, 103]⟩), .c (ls ⟨#[]⟩)]] (.tup [.agg [.c z0, .c z1, .c z2, .c z3, .c z4, .c z5, .c z6, .c z7], dv (li 8)]))
    (g1 : DCalls Tryd.prog 12 [dv (ls ⟨#[51, 115, 103]⟩)] (.one (.c (.lit (.bool true))))) (g2 : DCalls Tryd.prog 12 [dv (ls ⟨#[99, 111, 109, 101, 32, 98, 97, 99, 107]⟩)] (.one (.c (.lit (.bool false))))) (g3 : DCalls Tryd.prog 12 [dv (ls ⟨#[117, 110, 45, 100, 111]⟩)] (.one (.c (.lit (.bool false))))) (g4 : DCalls Tryd.prog 12 [dv (ls ⟨#[]⟩)] (.one (.c (.lit (.bool false)))))
    (c1 : DCalls Tryd.prog 17 [.agg [.c g0], .agg [.c e0, .c e1, .c e2, .c e3, .c e4, .c e5, .c e6, .c e7]] (dv (li 0)))
    (c2 : DCalls Tryd.prog 17 [.agg [.c g0], .agg [.c e0, .c e1, .c e2, .c e3, .c e4, .c (.lit (.slice none 0 0)), .c e6, .c e7]] (dv (li 4)))
    (c3 : DCalls Tryd.prog 17 [.agg [.c g0], .agg [.c e0, .c e1, .c e2, .c e3, .c (li 7), .c (.lit (.slice none 0 0)), .c e6, .c e7]] (dv (li 0)))
    (q1 : DCalls Tryd.prog 29 [.agg [.c e0, .c e1, .c e2, .c e3, .c e4, .c e5, .c e6, .c e7], .agg [.c e0, .c e1, .c e2, .c e3, .c e4, .c e5, .c e6, .c e7]] (.one (.c (.lit (.bool true)))))
    (k1 : DCalls Tryd.prog 23 [.agg [.c e0, .c e1, .c e2, .c e3, .c e4, .c e5, .c e6, .c e7], dv (.sl 1 [[li 2]])] (.one (.c (.lit (.bool true))))) (k2 : DCalls Tryd.prog 23 [.agg [.c e0, .c e1, .c e2, .c e3, .c e4, .c e5, .c e6, .c e7], dv (.sl 1 [[li 1]])] (.one (.c (.lit (.bool false))))) (f1 : DCalls Tryd.prog 21 [.agg [.c e0, .c e1, .c e2, .c e3, .c e4, .c e5, .c e6, .c e7]] (dv (.sl 1 L)))
    (hL : L.length = 2) (hR : rs.length = 2) (hR0 : rs[0]? = some [li 1, li 2]) (hSn : ss.length = 2) :
    DCalls Tryd.prog 14 [] (dv (lb true)) := by
  refine dcalls (N := 129) (rs := [.tmp 0]) (by kernel_rfl) Tryd.func14 rfl rfl rfl (by simp) ?_
  (repeat' (first | refine kA ?_ | refine kB ?_ | ((first | (refine kC (N := 129) rfl (by kernel_rfl) ?_) | refine kD ?_ | refine kE ?_ | (refine kN (hS) (kP rfl) ?_) | (refine kO (hS) (kP rfl) ?_) | (refine kN (a1) (kP rfl) ?_) | (refine kO (a1) (kP rfl) ?_) | (refine kN (a2) (kP rfl) ?_) | (refine kO (a2) (kP rfl) ?_) | (refine kN (a3) (kP rfl) ?_) | (refine kO (a3) (kP rfl) ?_) | (refine kN (a4) (kP rfl) ?_) | (refine kO (a4) (kP rfl) ?_)); simp (decide := true) only [go_sem, reduceIte, reduceCtorEq, jA, jB, jC, jD, jE, jF]) | (apply kG; (simp (decide := true) only [go_sem, reduceIte, reduceCtorEq, jA, jB, jC, jD, jE, jF]; rfl); all_goals (intro hcnd; first | (exact absurd hcnd (by decide)) | skip)) | ((first | refine kH ?_ ?_ | refine kI ?_ ?_) <;> (intro hcnd; simp (decide := true) only [go_sem, reduceIte, reduceCtorEq, jA, jB, jC, jD, jE, jF, hcnd]))))
  refine kK (kM (N := 129) (sls := [(1, .one (.bx 1 8 0 0)), (2, .one (.bx 2 8 0 0)), (3, .one (.bx 3 8 0 0)), (4, dv (li 0)), (5, .one (.bx 5 8 0 0)), (6, dv (li 0)), (7, .one (.bx 7 8 0 0)), (8, dv (li 0)), (10, dv (li 8))]) (bxs := [(1, [[.c e0, .c e1, .c e2, .c e3, .c e4, .c (.lit (.slice none 0 0)), .c e6, .c e7]]), (2, [[.c e0, .c e1, .c e2, .c e3, .c (li 7), .c (.lit (.slice none 0 0)), .c e6, .c e7]]), (3, [[.c r0, .c r1, .c r2, .c r3, .c r4, .c r5, .c r6, .c (.sl 2 rs)]]), (5, [[.c e0, .c e1, .c e2, .c e3, .c e4, .c e5, .c e6, .c e7]]), (7, [[.c s0, .c s1, .c s2, .c s3, .c s4, .c (.sl 2 ss), .c s6, .c s7]])]) rfl (by simp (decide := true) only [go_sem, reduceIte, reduceCtorEq, jA, jB, jC, jD, jE, jF]) (by simp (decide := true) only [go_sem, reduceIte, reduceCtorEq, jA, jB, jC, jD, jE, jF])) ?_
  apply dw_treeM (id := 7) (N := 129) [] [[], [0, 0], [1, 1], [2, 1], [1, 3], [4, 2], [5, 5], [6, 5], [5, 7], [8, 6], [9, 9], [10, 9], [9, 11], [12, 10], [13, 13], [14, 13], [14, 15, 15, 13], [16, 13], [13, 17], [18, 16], [19, 19], [19], [20, 21, 20, 19], [22, 19], [19, 23], [24, 22], [25, 25], [25], [26, 27, 26, 25], [28, 25], [25, 29], [30, 28], [31], [32, 31], [31, 33], [34, 31], [35], [36, 35], [37, 35], [38, 35], [35, 39], [40, 35], [41], [42, 41], [43, 41], [44, 41], [45, 41], [46, 41], [41, 47], [48, 41], [49], [50, 49], [49, 51], [52, 49], [53], [53, 53], [54, 55, 55, 53], [53, 56], [57, 56], [58], [59, 58], [58, 60], [61, 58], [62], [63, 62], [64, 62], [65, 62], [62, 66], [67, 62], [68], [69, 68], [68, 70], [71, 68], [72, 72], [72], [73, 74, 73, 72], [72, 75], [76, 75], [77, 77], [77], [78, 79, 78, 77], [80, 77], [77, 81], [82, 80], [83, 83], [84, 84, 83], [85, 83], [86, 83], [83, 87], [88, 85, 0, 1, 2, 3, 4, 5, 6, 7, 8, 9, 10, 11, 12, 13, 14, 15, 16, 17, 18, 19, 20, 21, 22, 23, 24, 25, 26, 27, 28, 29, 30, 31, 32, 33, 34, 35, 36, 37, 38, 39, 40, 41, 42, 43, 44, 45, 46, 47, 48, 49, 50, 51, 52, 53, 54, 55, 56, 57, 58, 59, 60, 61, 62, 63, 64, 65, 66, 67, 68, 69, 70, 71, 72, 73, 74, 75, 76, 77, 78, 79, 80, 81, 82, 83, 84, 85, 86, 87, 88]] (.run [0, 1, 2, 3, 4, 5, 6, 7, 8, 9, 10, 11, 12, 13, 14, 15, 16, 17, 18, 19] (.dia 20 21 (.run [22, 23, 24, 25] (.dia 26 27 (.run [28, 29, 30, 31, 32, 33, 34, 35, 36, 37, 38, 39, 40, 41, 42, 43, 44, 45, 46, 47, 48, 49, 50, 51, 52, 53] (.dia 54 55 (.run [56, 57, 58, 59, 60, 61, 62, 63, 64, 65, 66, 67, 68, 69, 70, 71, 72] (.dia 73 74 (.run [75, 76, 77] (.dia 78 79 (.run [80, 81, 82, 83, 84, 85, 86, 87, 88, 89] .leaf))))))))))); kernel_rfl; rfl; kernel_rfl; kernel_rfl
  simp only [List.append_eq, List.cons_append, List.nil_append, List.map_cons, List.map_nil]
  simp (decide := true) only [go_sem, reduceIte, reduceCtorEq, jA, jB, jC, jD, jE, jF]
  (repeat' (first | refine kA ?_ | refine kB ?_ | ((first | (refine kC (N := 129) rfl (by kernel_rfl) ?_) | (apply kJ (id := 7) (N := 129) kpm18; kernel_rfl; rfl; kernel_rfl; (repeat (first | exact Picks.nil | (apply Picks.cons; rfl)))) | refine kD ?_ | refine kE ?_ | (refine kN (hS) (kP rfl) ?_) | (refine kO (hS) (kP rfl) ?_) | (refine kN (h2) (kP rfl) ?_) | (refine kO (h2) (kP rfl) ?_) | (refine kN (g1) (kP rfl) ?_) | (refine kO (g1) (kP rfl) ?_) | (refine kN (g2) (kP rfl) ?_) | (refine kO (g2) (kP rfl) ?_) | (refine kN (g3) (kP rfl) ?_) | (refine kO (g3) (kP rfl) ?_) | (refine kN (g4) (kP rfl) ?_) | (refine kO (g4) (kP rfl) ?_) | (refine kN (c1) (kP rfl) ?_) | (refine kO (c1) (kP rfl) ?_) | (refine kN (c2) (kP rfl) ?_) | (refine kO (c2) (kP rfl) ?_) | (refine kN (c3) (kP rfl) ?_) | (refine kO (c3) (kP rfl) ?_) | (refine kN (q1) (kP rfl) ?_) | (refine kO (q1) (kP rfl) ?_) | (refine kN (k1) (kP rfl) ?_) | (refine kO (k1) (kP rfl) ?_) | (refine kN (k2) (kP rfl) ?_) | (refine kO (k2) (kP rfl) ?_) | (refine kN (f1) (kP rfl) ?_) | (refine kO (f1) (kP rfl) ?_) | refine kF ?_); simp (decide := true) only [go_sem, reduceIte, reduceCtorEq, jA, jB, jC, jD, jE, jF, hR, hR0, hSn, hL, beq_self_eq_true, bne_self_eq_false]) | (apply kG; (simp (decide := true) only [go_sem, reduceIte, reduceCtorEq, jA, jB, jC, jD, jE, jF, hR, hR0, hSn, hL, beq_self_eq_true, bne_self_eq_false]; rfl); all_goals (intro hcnd; first | (exact absurd hcnd (by decide)) | skip)) | ((first | refine kH ?_ ?_ | refine kI ?_ ?_) <;> (intro hcnd; simp (decide := true) only [go_sem, reduceIte, reduceCtorEq, jA, jB, jC, jD, jE, jF, hcnd, hR, hR0, hSn, hL, beq_self_eq_true, bne_self_eq_false]))))

theorem awake_D : DCalls Tryd.prog 14 [] (dv (lb true)) := by
  have a1 := attest_D samE ⟨1, 2⟩ (by decide)
  rw [ex_att] at a1
  have a2 := forget_D samR ⟨1, 2⟩ (by decide)
  rw [ex_for] at a2
  have a3 := add_D samE hound
  rw [ex_add] at a3
  have a4 := add_D samE dog1
  rw [ex_add2] at a4
  have g1 := gloss_D ⟨#[51, 115, 103]⟩
  rw [ex_g1] at g1
  have g2 := gloss_D ⟨#[99, 111, 109, 101, 32, 98, 97, 99, 107]⟩
  rw [ex_g2] at g2
  have g3 := gloss_D ⟨#[117, 110, 45, 100, 111]⟩
  rw [ex_g3] at g3
  have g4 := gloss_D ⟨#[]⟩
  rw [ex_g4] at g4
  have c1 := check_D twoG samE
  rw [ex_c1] at c1
  have c2 := check_D twoG samN
  rw [ex_c2] at c2
  have c3 := check_D twoG samM
  rw [ex_c3] at c3
  have s1 := same_D samE samE
  rw [decide_eq_true rfl] at s1
  have k1 := has_D samE [2] ⟨by decide, by decide⟩
  rw [ex_h1] at k1
  have k2 := has_D samE [1] ⟨by decide, by decide⟩
  rw [ex_h2] at k2
  replace c2 := dcalls_le (.cons (dle_rfl _) (.cons (dle_agg (.same _ (.same _ (.same _ (.same _ (.same _ (.none 2 (TLeL.refl_ _)))))))) .nil)) c2
  replace c3 := dcalls_le (.cons (dle_rfl _) (.cons (dle_agg (.same _ (.same _ (.same _ (.same _ (.same _ (.none 2 (TLeL.refl_ _)))))))) .nil)) c3
  exact awake_aux _ _ _ _ _ _ _ _ _ _ _ _ _ _ _ _ _ _ _ _ _ _ _ _ _ _ _ _ _ _ _ _ _ _ sample_D two_D a1 a2 a3 a4 g1 g2 g3 g4 c1 c2 c3 s1 k1 k2 (formsL_D samE (by decide)) rfl rfl rfl rfl
end Go.Proofs.YtiaamlaibfpdgaaDoor
