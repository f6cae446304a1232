/- The logic of data over the kit's walk, and contracts of the functions that the laws reach, each said by plain data; part 4 of 6. -/
import Derived.Lib.ValidLaws
import Derived.WalkKit
import Derived.WalkMore
import Derived.Below
import Derived.Shelf.Strings.IndexAnyAll
import Derived.Laws.RangeString
import Derived.Deep.LoopGhost
import Derived.Deep.DeepBigQuietO
import Derived.Lib.TrimUEq
import Derived.Lib.OthersKept
import Derived.Test.YtiaamlaibfpdgaaDoorm2
set_option linter.all false
set_option linter.unusedVariables false
set_option linter.unusedSimpArgs false
open Nat renaming reduceEqDiff → jA, reduceAdd → jB, reduceMul → jC, reduceSub → jD, reduceLeDiff → jE, reduceBEq → jF
/- Plain: one character of UTF-8, as the reference reads it and as Go's library does. -/
namespace Go.Proofs.YtiaamlaibfpdgaaDoor
open Go.Lib

def encN (p : Nat) : List Nat :=
  if p < 128 then [p] else if p < 2048 then [192 + p / 64, 128 + p % 64] else if p < 65536 then [224 + p / 4096, 128 + p / 64 % 64, 128 + p % 64]
  else [240 + p / 262144, 128 + p / 4096 % 64, 128 + p / 64 % 64, 128 + p % 64]
def leadN (b0 : Nat) : Nat := if 240 ≤ b0 then 4 else if 224 ≤ b0 then 3 else if 192 ≤ b0 then 2 else 1
def valN (b0 b1 b2 b3 : Nat) : Nat :=
  if 240 ≤ b0 then (((b0 - 240) * 64 + b1 % 64) * 64 + b2 % 64) * 64 + b3 % 64 else if 224 ≤ b0 then ((b0 - 224) * 64 + b1 % 64) * 64 + b2 % 64
  else if 192 ≤ b0 then (b0 - 192) * 64 + b1 % 64 else b0
def scalN (p : Nat) : Prop := p ≤ 1114111 ∧ (p < 55296 ∨ 57343 < p)
instance (p : Nat) : Decidable (scalN p) := by unfold scalN; infer_instance
def fstN (n b0 b1 b2 b3 : Nat) : Option (Nat × Nat) :=
  if n < leadN b0 then none
  else if scalN (valN b0 b1 b2 b3) ∧ encN (valN b0 b1 b2 b3) = [b0, b1, b2, b3].take (leadN b0) then some (valN b0 b1 b2 b3, leadN b0) else none

def okN (d : Nat × Nat) : Option (Nat × Nat) := if d = (65533, 1) then none else some d
theorem okN_bad : okN (65533, 1) = none := by simp [okN]
theorem okN_some {a b : Nat} (h : ¬ (a = 65533 ∧ b = 1)) : okN (a, b) = some (a, b) := by simp [okN, h]

theorem fst_yes {n b0 b1 b2 b3 k p : Nat} (e1 : leadN b0 = k) (e2 : valN b0 b1 b2 b3 = p) (hn : ¬ n < k) (h : scalN p ∧ encN p = [b0, b1, b2, b3].take k) : fstN n b0 b1 b2 b3 = some (p, k) := by
  subst e1; subst e2
  unfold fstN
  rw [if_neg hn, if_pos h]
theorem fst_no {n b0 b1 b2 b3 k p : Nat} (e1 : leadN b0 = k) (e2 : valN b0 b1 b2 b3 = p) (h : ¬ (scalN p ∧ encN p = [b0, b1, b2, b3].take k)) : fstN n b0 b1 b2 b3 = none := by
  subst e1; subst e2
  unfold fstN
  split
  · rfl
  · first | rfl | rw [if_neg h]
theorem fst_short {n b0 b1 b2 b3 k : Nat} (e1 : leadN b0 = k) (hn : n < k) : fstN n b0 b1 b2 b3 = none := by
  subst e1
  unfold fstN
  rw [if_pos hn]

theorem fst1 (n b0 b1 b2 b3 : Nat) (hn : 1 ≤ n) (h : b0 < 192) : fstN n b0 b1 b2 b3 = okN (decodeN n b0 b1 b2 b3) := by
  have e1 : leadN b0 = 1 := by unfold leadN; (repeat' split) <;> omega
  have e2 : valN b0 b1 b2 b3 = b0 := by unfold valN; (repeat' split) <;> omega
  by_cases h1 : b0 < 128
  · have e3 : decodeN n b0 b1 b2 b3 = (b0, 1) := by simp [decodeN, h1]
    rw [e3, okN_some (by omega)]
    exact fst_yes e1 e2 (by omega) ⟨⟨by omega, by omega⟩, by simp [encN, h1]⟩
  · have e3 : decodeN n b0 b1 b2 b3 = (65533, 1) := decodeN_bad n b0 b1 b2 b3 (.inl ⟨by omega, by omega⟩)
    rw [e3, okN_bad]
    refine fst_no e1 e2 ?_
    simp only [List.take_succ_cons, List.take_zero]
    rintro ⟨_, h2⟩
    simp [encN, h1, show b0 < 2048 by omega] at h2

theorem fst2 (n b0 b1 b2 b3 : Nat) (h1 : b1 < 256) (h : 192 ≤ b0) (h' : b0 < 224) : fstN n b0 b1 b2 b3 = okN (decodeN n b0 b1 b2 b3) := by
  have e1 : leadN b0 = 2 := by unfold leadN; (repeat' split) <;> omega
  have e2 : valN b0 b1 b2 b3 = (b0 - 192) * 64 + b1 % 64 := by unfold valN; (repeat' split) <;> omega
  have hb : b0 / 32 = 6 := by omega
  have hp : b0 % 32 * 64 + b1 % 64 = (b0 - 192) * 64 + b1 % 64 := by omega
  by_cases hn : n < 2
  · rw [fst_short e1 hn]
    have e3 : decodeN n b0 b1 b2 b3 = (65533, 1) := by
      unfold decodeN
      rw [if_neg (by omega), if_neg (by omega), if_neg (by omega), if_neg (by omega)]
    rw [e3, okN_bad]
  by_cases hc : b1 / 64 = 2
  · have e3 : decodeN n b0 b1 b2 b3 = if b0 % 32 * 64 + b1 % 64 ≥ 128 then (b0 % 32 * 64 + b1 % 64, 2) else (65533, 1) := by
      unfold decodeN
      rw [if_neg (by omega), if_pos ⟨hb, by omega, hc⟩]
    rw [e3, hp]
    by_cases hv : (b0 - 192) * 64 + b1 % 64 ≥ 128
    · rw [if_pos hv, okN_some (by omega)]
      refine fst_yes e1 e2 hn ⟨⟨by omega, by omega⟩, ?_⟩
      simp only [List.take_succ_cons, List.take_zero]
      rw [encN, if_neg (by omega), if_pos (by omega)]
      simp only [List.cons.injEq, and_true]
      omega
    · rw [if_neg hv, okN_bad]
      refine fst_no e1 e2 ?_
      simp only [List.take_succ_cons, List.take_zero]
      rintro ⟨_, h2⟩
      rw [encN, if_pos (by omega)] at h2
      simp at h2
  · have e3 : decodeN n b0 b1 b2 b3 = (65533, 1) := by
      unfold decodeN
      rw [if_neg (by omega), if_neg (by omega), if_neg (by omega), if_neg (by omega)]
    rw [e3, okN_bad]
    refine fst_no e1 e2 ?_
    simp only [List.take_succ_cons, List.take_zero]
    rintro ⟨_, h2⟩
    rw [encN] at h2
    split at h2
    · simp at h2
    · rw [if_pos (by omega)] at h2
      simp only [List.cons.injEq, and_true] at h2
      omega

theorem fst3 (n b0 b1 b2 b3 : Nat) (h1 : b1 < 256) (h2 : b2 < 256) (h : 224 ≤ b0) (h' : b0 < 240) : fstN n b0 b1 b2 b3 = okN (decodeN n b0 b1 b2 b3) := by
  have e1 : leadN b0 = 3 := by unfold leadN; (repeat' split) <;> omega
  have e2 : valN b0 b1 b2 b3 = ((b0 - 224) * 64 + b1 % 64) * 64 + b2 % 64 := by unfold valN; (repeat' split) <;> omega
  have hb : b0 / 16 = 14 := by omega
  have hp : b0 % 16 * 4096 + b1 % 64 * 64 + b2 % 64 = ((b0 - 224) * 64 + b1 % 64) * 64 + b2 % 64 := by omega
  have bad : ¬ (3 ≤ n ∧ b1 / 64 = 2 ∧ b2 / 64 = 2) → decodeN n b0 b1 b2 b3 = (65533, 1) := fun hh => by
    unfold decodeN
    rw [if_neg (by omega), if_neg (by omega), if_neg (by omega), if_neg (by omega)]
  by_cases hn : n < 3
  · rw [fst_short e1 hn, bad (by omega), okN_bad]
  generalize hq : ((b0 - 224) * 64 + b1 % 64) * 64 + b2 % 64 = p at *
  by_cases hc : b1 / 64 = 2 ∧ b2 / 64 = 2
  · have e3 : decodeN n b0 b1 b2 b3 = if p ≥ 2048 ∧ (p < 55296 ∨ (57344 ≤ p ∧ p ≤ 1114111)) then (p, 3) else (65533, 1) := by
      unfold decodeN
      rw [if_neg (by omega), if_neg (by omega), if_pos ⟨hb, by omega, by omega⟩, hp]
    rw [e3]
    by_cases hv : p ≥ 2048 ∧ (p < 55296 ∨ (57344 ≤ p ∧ p ≤ 1114111))
    · rw [if_pos hv, okN_some (by omega)]
      refine fst_yes e1 e2 hn ⟨⟨by omega, by omega⟩, ?_⟩
      simp only [List.take_succ_cons, List.take_zero]
      rw [encN, if_neg (by omega), if_neg (by omega), if_pos (by omega)]
      simp only [List.cons.injEq, and_true]
      omega
    · rw [if_neg hv, okN_bad]
      refine fst_no e1 e2 ?_
      simp only [List.take_succ_cons, List.take_zero]
      rintro ⟨⟨s1, s2⟩, h2⟩
      rw [encN] at h2
      split at h2
      · simp at h2
      · rw [if_pos (by omega)] at h2
        simp at h2
  · rw [bad (by omega), okN_bad]
    refine fst_no e1 e2 ?_
    simp only [List.take_succ_cons, List.take_zero]
    rintro ⟨_, h2⟩
    rw [encN] at h2
    split at h2
    · simp at h2
    · split at h2
      · simp at h2
      · rw [if_pos (by omega)] at h2
        simp only [List.cons.injEq, and_true] at h2
        omega

theorem fst4 (n b0 b1 b2 b3 : Nat) (h0 : b0 < 256) (h1 : b1 < 256) (h2 : b2 < 256) (h3 : b3 < 256) (h : 240 ≤ b0) : fstN n b0 b1 b2 b3 = okN (decodeN n b0 b1 b2 b3) := by
  have e1 : leadN b0 = 4 := by unfold leadN; (repeat' split) <;> omega
  have e2 : valN b0 b1 b2 b3 = (((b0 - 240) * 64 + b1 % 64) * 64 + b2 % 64) * 64 + b3 % 64 := by unfold valN; (repeat' split) <;> omega
  have bad : ¬ (4 ≤ n ∧ b0 < 248 ∧ b1 / 64 = 2 ∧ b2 / 64 = 2 ∧ b3 / 64 = 2) → decodeN n b0 b1 b2 b3 = (65533, 1) := fun hh => by
    unfold decodeN
    rw [if_neg (by omega), if_neg (by omega), if_neg (by omega), if_neg (by omega)]
  by_cases hn : n < 4
  · rw [fst_short e1 hn, bad (by omega), okN_bad]
  by_cases hc : b0 < 248 ∧ b1 / 64 = 2 ∧ b2 / 64 = 2 ∧ b3 / 64 = 2
  · have hp : b0 % 8 * 262144 + b1 % 64 * 4096 + b2 % 64 * 64 + b3 % 64 = (((b0 - 240) * 64 + b1 % 64) * 64 + b2 % 64) * 64 + b3 % 64 := by omega
    have hb : b0 / 8 = 30 := by omega
    generalize hq : (((b0 - 240) * 64 + b1 % 64) * 64 + b2 % 64) * 64 + b3 % 64 = p at *
    have e3 : decodeN n b0 b1 b2 b3 = if p ≥ 65536 ∧ (p < 55296 ∨ (57344 ≤ p ∧ p ≤ 1114111)) then (p, 4) else (65533, 1) := by
      unfold decodeN
      rw [if_neg (by omega), if_neg (by omega), if_neg (by omega), if_pos ⟨hb, by omega, by omega, by omega⟩, hp]
    rw [e3]
    by_cases hv : p ≥ 65536 ∧ (p < 55296 ∨ (57344 ≤ p ∧ p ≤ 1114111))
    · rw [if_pos hv, okN_some (by omega)]
      refine fst_yes e1 e2 hn ⟨⟨by omega, by omega⟩, ?_⟩
      simp only [List.take_succ_cons, List.take_zero]
      rw [encN, if_neg (by omega), if_neg (by omega), if_neg (by omega)]
      simp only [List.cons.injEq, and_true]
      omega
    · rw [if_neg hv, okN_bad]
      refine fst_no e1 e2 ?_
      simp only [List.take_succ_cons, List.take_zero]
      rintro ⟨⟨s1, s2⟩, h2⟩
      rw [encN] at h2
      split at h2
      · simp at h2
      · split at h2
        · simp at h2
        · rw [if_pos (by omega)] at h2
          simp at h2
  · rw [bad (by omega), okN_bad]
    refine fst_no e1 e2 ?_
    simp only [List.take_succ_cons, List.take_zero]
    rintro ⟨⟨s1, s2⟩, h2⟩
    generalize hq : (((b0 - 240) * 64 + b1 % 64) * 64 + b2 % 64) * 64 + b3 % 64 = p at *
    rw [encN] at h2
    split at h2
    · simp at h2
    · split at h2
      · simp at h2
      · split at h2
        · simp at h2
        · simp only [List.cons.injEq, and_true] at h2
          omega

theorem fst_decode (n b0 b1 b2 b3 : Nat) (hn : 1 ≤ n) (h0 : b0 < 256) (h1 : b1 < 256) (h2 : b2 < 256) (h3 : b3 < 256) : fstN n b0 b1 b2 b3 = okN (decodeN n b0 b1 b2 b3) := by
  by_cases c1 : b0 < 192
  · exact fst1 n b0 b1 b2 b3 hn c1
  by_cases c2 : b0 < 224
  · exact fst2 n b0 b1 b2 b3 h1 (by omega) c2
  by_cases c3 : b0 < 240
  · exact fst3 n b0 b1 b2 b3 h1 h2 (by omega) c3
  · exact fst4 n b0 b1 b2 b3 h0 h1 h2 h3 (by omega)
end Go.Proofs.YtiaamlaibfpdgaaDoor

/- Plain: one character at the head of a list of bytes. -/
namespace Go.Proofs.YtiaamlaibfpdgaaDoor
open Go.Lib

def bAt (bs : List UInt8) (i : Nat) : Nat := (bs.getD i 0).toNat
def fstL (bs : List UInt8) : Option (Nat × Nat) := fstN bs.length (bAt bs 0) (bAt bs 1) (bAt bs 2) (bAt bs 3)
def baseN (b0 : Nat) : Nat := if 240 ≤ b0 then b0 - 240 else if 224 ≤ b0 then b0 - 224 else if 192 ≤ b0 then b0 - 192 else b0
def pf (p : Nat) (xs : List UInt8) : Nat := xs.foldl (fun p b => p * 64 + b.toNat % 64) p
theorem pf_snoc (p : Nat) (xs : List UInt8) (b : UInt8) : pf p (xs ++ [b]) = pf p xs * 64 + b.toNat % 64 := by simp [pf]
theorem pf_lt : ∀ (xs : List UInt8) (p : Nat), pf p xs < (p + 1) * 64 ^ xs.length
  | [], p => by simp [pf]
  | b :: xs, p => by
    have h := pf_lt xs (p * 64 + b.toNat % 64)
    have e : pf p (b :: xs) = pf (p * 64 + b.toNat % 64) xs := rfl
    rw [e]
    refine Nat.lt_of_lt_of_le h ?_
    rw [List.length_cons, Nat.pow_succ, Nat.mul_comm (64 ^ xs.length) 64, ← Nat.mul_assoc]
    exact Nat.mul_le_mul_right _ (by omega)
theorem lead_cases (b0 : Nat) : (leadN b0 = 1 ∧ b0 < 192) ∨ (leadN b0 = 2 ∧ 192 ≤ b0 ∧ b0 < 224) ∨ (leadN b0 = 3 ∧ 224 ≤ b0 ∧ b0 < 240) ∨ (leadN b0 = 4 ∧ 240 ≤ b0) := by
  unfold leadN; (repeat' split) <;> omega
theorem base_le (b0 : Nat) : baseN b0 ≤ b0 := by unfold baseN; (repeat' split) <;> omega

def tailL (bs : List UInt8) : List UInt8 := (bs.drop 1).take (leadN (bAt bs 0) - 1)
theorem val_pf {bs : List UInt8} (h : leadN (bAt bs 0) ≤ bs.length) : valN (bAt bs 0) (bAt bs 1) (bAt bs 2) (bAt bs 3) = pf (baseN (bAt bs 0)) (tailL bs) := by
  unfold tailL
  rcases lead_cases (bAt bs 0) with ⟨e, c⟩ | ⟨e, c, c'⟩ | ⟨e, c, c'⟩ | ⟨e, c⟩ <;> rw [e] at h ⊢
  · simp only [Nat.sub_self, List.take_zero, pf, List.foldl_nil]
    unfold valN baseN; (repeat' split) <;> omega
  · match bs, h with
    | a :: b :: l, _ =>
      simp only [bAt, List.getD_cons_zero, List.getD_cons_succ, List.drop_succ_cons, List.drop_zero, List.take_succ_cons, List.take_zero, pf, List.foldl_cons, List.foldl_nil] at *
      unfold valN baseN; (repeat' split) <;> omega
  · match bs, h with
    | a :: b :: d :: l, _ =>
      simp only [bAt, List.getD_cons_zero, List.getD_cons_succ, List.drop_succ_cons, List.drop_zero, List.take_succ_cons, List.take_zero, pf, List.foldl_cons, List.foldl_nil] at *
      unfold valN baseN; (repeat' split) <;> omega
  · match bs, h with
    | a :: b :: d :: f :: l, _ =>
      simp only [bAt, List.getD_cons_zero, List.getD_cons_succ, List.drop_succ_cons, List.drop_zero, List.take_succ_cons, List.take_zero, pf, List.foldl_cons, List.foldl_nil] at *
      unfold valN baseN; (repeat' split) <;> omega
theorem head_take {bs : List UInt8} (h : leadN (bAt bs 0) ≤ bs.length) : [bAt bs 0, bAt bs 1, bAt bs 2, bAt bs 3].take (leadN (bAt bs 0)) = (bs.take (leadN (bAt bs 0))).map UInt8.toNat := by
  rcases lead_cases (bAt bs 0) with ⟨e, c⟩ | ⟨e, c, c'⟩ | ⟨e, c, c'⟩ | ⟨e, c⟩ <;> rw [e] at h ⊢
  · match bs, h with
    | a :: l, _ => simp [bAt]
  · match bs, h with
    | a :: b :: l, _ => simp [bAt]
  · match bs, h with
    | a :: b :: d :: l, _ => simp [bAt]
  · match bs, h with
    | a :: b :: d :: f :: l, _ => simp [bAt]
theorem tail_len {bs : List UInt8} (h : leadN (bAt bs 0) ≤ bs.length) : (tailL bs).length + 1 = leadN (bAt bs 0) := by
  unfold tailL
  rcases lead_cases (bAt bs 0) with ⟨e, c⟩ | ⟨e, c, c'⟩ | ⟨e, c, c'⟩ | ⟨e, c⟩ <;> rw [e] at h ⊢ <;> simp <;> omega
theorem tail_at {bs : List UInt8} {k : Nat} {b : UInt8} (h : (tailL bs)[k]? = some b) : bs[k + 1]? = some b := by
  unfold tailL at h
  rw [List.getElem?_take] at h
  split at h
  · rw [List.getElem?_drop] at h; rwa [Nat.add_comm]
  · cases h

theorem enc_lt {p : Nat} (hp : p ≤ 1114111) : ∀ x ∈ encN p, x < 256 := by
  unfold encN
  (repeat' split) <;> simp <;> omega
theorem enc_bytes {p : Nat} (hp : p ≤ 1114111) {tk : List UInt8} : (encN p).map UInt8.ofNat = tk ↔ encN p = tk.map UInt8.toNat := by
  constructor
  · intro h
    rw [← h, List.map_map]
    conv => lhs; rw [← List.map_id (encN p)]
    apply List.map_congr_left
    intro x hx
    have := enc_lt hp x hx
    simp [Function.comp]; omega
  · intro h
    rw [h, List.map_map]
    conv => rhs; rw [← List.map_id tk]
    apply List.map_congr_left
    intro x hx
    simp [Function.comp]

theorem fstL_short {bs : List UInt8} (h : bs.length < leadN (bAt bs 0)) : fstL bs = none := fst_short rfl h
theorem fstL_eq {bs : List UInt8} (h : leadN (bAt bs 0) ≤ bs.length) : fstL bs = if scalN (pf (baseN (bAt bs 0)) (tailL bs)) ∧ (encN (pf (baseN (bAt bs 0)) (tailL bs))).map UInt8.ofNat = bs.take (leadN (bAt bs 0)) then some (pf (baseN (bAt bs 0)) (tailL bs), leadN (bAt bs 0)) else none := by
  have e := val_pf h
  unfold fstL
  by_cases hs : scalN (pf (baseN (bAt bs 0)) (tailL bs))
  · by_cases he : (encN (pf (baseN (bAt bs 0)) (tailL bs))).map UInt8.ofNat = bs.take (leadN (bAt bs 0))
    · rw [if_pos ⟨hs, he⟩]
      exact fst_yes rfl e (by omega) ⟨hs, by rw [head_take h]; exact (enc_bytes hs.1).1 he⟩
    · rw [if_neg (fun hh => he hh.2)]
      exact fst_no rfl e fun hh => he ((enc_bytes hs.1).2 (by rw [← head_take h]; exact hh.2))
  · rw [if_neg (fun hh => hs hh.1)]
    exact fst_no rfl e fun hh => hs hh.1

theorem fstL_decode {bs : List UInt8} (h : bs ≠ []) : fstL bs = okN (decodeL bs) := by
  rw [decodeL_N]
  have hl : 1 ≤ bs.length := List.length_pos_iff.2 h
  exact fst_decode _ _ _ _ _ hl (UInt8.toNat_lt _) (UInt8.toNat_lt _) (UInt8.toNat_lt _) (UInt8.toNat_lt _)
end Go.Proofs.YtiaamlaibfpdgaaDoor

/- Plain: all characters of a list of bytes. -/
namespace Go.Proofs.YtiaamlaibfpdgaaDoor
open Go.Lib

theorem fstL_width {bs : List UInt8} {p k : Nat} (h : fstL bs = some (p, k)) : 1 ≤ k ∧ k ≤ bs.length ∧ p ≤ 1114111 := by
  by_cases hl : leadN (bAt bs 0) ≤ bs.length
  · rw [fstL_eq hl] at h
    split at h
    · rename_i hs
      injection h with h; injection h with h1 h2
      subst h1; subst h2
      have := tail_len hl
      exact ⟨by omega, hl, hs.1.1⟩
    · cases h
  · rw [fstL_short (by omega)] at h; cases h

def ptsN : Nat → List UInt8 → Option (List Nat)
  | 0, _ => some []
  | n + 1, bs => if bs = [] then some [] else match fstL bs with
    | none => none
    | some (p, k) => (ptsN n (bs.drop k)).map fun l => p :: l
theorem ptsN_fuel : ∀ (n m : Nat) (bs : List UInt8), bs.length ≤ n → bs.length ≤ m → ptsN n bs = ptsN m bs
  | 0, m, bs, hn, _ => by
    have : bs = [] := List.eq_nil_of_length_eq_zero (by omega)
    subst this
    cases m <;> simp [ptsN]
  | n + 1, 0, bs, _, hm => by
    have : bs = [] := List.eq_nil_of_length_eq_zero (by omega)
    subst this
    simp [ptsN]
  | n + 1, m + 1, bs, hn, hm => by
    unfold ptsN
    split
    · rfl
    · split
      · rfl
      · rename_i p k hf
        have := fstL_width hf
        rw [ptsN_fuel n m (bs.drop k) (by simp; omega) (by simp; omega)]
def ptsL (bs : List UInt8) : Option (List Nat) := ptsN bs.length bs
theorem ptsL_nil : ptsL [] = some [] := rfl
theorem ptsL_bad {bs : List UInt8} (h : bs ≠ []) (hf : fstL bs = none) : ptsL bs = none := by
  have : 0 < bs.length := List.length_pos_iff.2 h
  obtain ⟨n, hn⟩ : ∃ n, bs.length = n + 1 := ⟨bs.length - 1, by omega⟩
  unfold ptsL
  rw [hn]
  simp [ptsN, h, hf]
theorem ptsL_step {bs : List UInt8} {p k : Nat} (hf : fstL bs = some (p, k)) : ptsL bs = (ptsL (bs.drop k)).map fun l => p :: l := by
  have hw := fstL_width hf
  have h : bs ≠ [] := fun e => by subst e; simp at hw; omega
  obtain ⟨n, hn⟩ : ∃ n, bs.length = n + 1 := ⟨bs.length - 1, by omega⟩
  unfold ptsL
  rw [hn]
  simp only [ptsN, h, if_false, hf]
  rw [ptsN_fuel n (bs.drop k).length (bs.drop k) (by simp; omega) (Nat.le_refl _)]

theorem okN_iff {d : Nat × Nat} : okN d = if d.1 = 65533 ∧ d.2 = 1 then none else some d := by
  unfold okN
  obtain ⟨a, b⟩ := d
  simp

theorem ptsL_valid : ∀ (n : Nat) (bs : List UInt8), bs.length ≤ n → (ptsL bs).isSome = validD bs
  | n, [], _ => rfl
  | 0, b :: l, h => by simp at h
  | n + 1, b :: l, h => by
    have hne : (b :: l) ≠ [] := by simp
    have hd := fstL_decode hne
    rw [okN_iff] at hd
    rw [validD_step _ hne]
    split
    · rename_i hb
      rw [if_pos hb] at hd
      rw [ptsL_bad hne hd]; rfl
    · rename_i hb
      rw [if_neg hb] at hd
      have hw := fstL_width (p := (decodeL (b :: l)).1) (k := (decodeL (b :: l)).2) hd
      rw [ptsL_step (p := (decodeL (b :: l)).1) (k := (decodeL (b :: l)).2) hd]
      rw [Option.isSome_map]
      exact ptsL_valid n _ (by simp at h ⊢; omega)
theorem pts_valid (bs : List UInt8) : (ptsL bs).isSome = validD bs := ptsL_valid bs.length bs (Nat.le_refl _)

def ctl (n : Nat) : Bool := decide (n < 32) || n == 127
theorem fst_ascii {b : UInt8} {l : List UInt8} (h : b.toNat < 128) : fstL (b :: l) = some (b.toNat, 1) := by
  rw [fstL_decode (by simp), decodeL_ascii b l h]
  exact okN_some (by omega)
theorem fst_wide {bs : List UInt8} {p k : Nat} (h : fstL bs = some (p, k)) (hb : 128 ≤ bAt bs 0) : 128 ≤ p ∧ ∀ x ∈ bs.take k, 128 ≤ x.toNat := by
  by_cases hl : leadN (bAt bs 0) ≤ bs.length
  · rw [fstL_eq hl] at h
    split at h
    · rename_i hs
      injection h with h; injection h with h1 h2
      obtain ⟨hs1, hs2⟩ := hs
      rw [h1] at hs1 hs2
      rw [h2] at hs2
      have hp : 128 ≤ p := by
        rcases Nat.lt_or_ge p 128 with hlt | hge
        · exfalso
          rw [encN, if_pos hlt] at hs2
          have h3 := (enc_bytes hs1.1 (tk := bs.take k)).1 (by rw [encN, if_pos hlt]; exact hs2)
          rw [encN, if_pos hlt] at h3
          have hw : 1 ≤ k ∧ k ≤ bs.length := by have := tail_len hl; omega
          cases hbs : bs with
          | nil => rw [hbs] at hw; simp at hw; omega
          | cons a l =>
            rw [hbs] at h3 hb
            obtain ⟨j, hj⟩ : ∃ j, k = j + 1 := ⟨k - 1, by omega⟩
            rw [hj] at h3
            simp [bAt] at h3 hb
            omega
        · exact hge
      refine ⟨hp, fun x hx => ?_⟩
      rw [← hs2] at hx
      obtain ⟨y, hy, rfl⟩ := List.mem_map.1 hx
      have hlt := enc_lt hs1.1 y hy
      have : 128 ≤ y := by
        unfold encN at hy
        (repeat' split at hy) <;> simp at hy <;> omega
      simp; omega
    · cases h
  · rw [fstL_short (by omega)] at h; cases h

theorem ctl_pts : ∀ (n : Nat) (bs : List UInt8) (l : List Nat), bs.length ≤ n → ptsL bs = some l → l.any ctl = bs.any fun b => ctl b.toNat
  | n, [], l, _, h => by rw [ptsL_nil] at h; injection h with h; subst h; rfl
  | 0, b :: r, l, hn, _ => by simp at hn
  | n + 1, b :: r, l, hn, h => by
    have hne : (b :: r) ≠ [] := by simp
    cases hf : fstL (b :: r) with
    | none => rw [ptsL_bad hne hf] at h; cases h
    | some d =>
      obtain ⟨p, k⟩ := d
      have hw := fstL_width hf
      rw [ptsL_step hf] at h
      cases hr : ptsL ((b :: r).drop k) with
      | none => rw [hr] at h; cases h
      | some q =>
        rw [hr] at h; injection h with h; subst h
        have ih := ctl_pts n _ q (by simp at hn ⊢; omega) hr
        rw [List.any_cons, ih]
        conv => rhs; rw [← List.take_append_drop k (b :: r)]
        rw [List.any_append]
        congr 1
        by_cases hb : b.toNat < 128
        · rw [fst_ascii hb] at hf
          injection hf with hf; injection hf with h1 h2
          subst h1; subst h2; simp
        · obtain ⟨h1, h2⟩ := fst_wide hf (by simp [bAt]; omega)
          have e1 : ctl p = false := by simp [ctl]; omega
          rw [e1]
          symm
          rw [List.any_eq_false]
          intro x hx
          have := h2 x hx
          simp [ctl]; omega
end Go.Proofs.YtiaamlaibfpdgaaDoor

/- Entries: data; small functions. -/
namespace Go.Proofs.YtiaamlaibfpdgaaDoor
open Go.Dl
open Go.Dl renaming dw_seq → kA, dw_block → kB, dw_reg → kC, dw_skip → kD, dw_exit → kE, dw_ret → kF, dw_cond → kG, guardC_f → kH, guardC_t → kI, dw_drw → kJ, dw_weaken → kK, sub_kn → kL, sub_ml → kM
open Go.Dl.CallC renaming mk → kN, light → kO
open Go.Dl.LeL renaming of_eq → kP
attribute [local irreducible] DW DCalls ECalls wk IW

abbrev li (n : Int) : C := .lit (.int .i64 n)
abbrev lb (b : Bool) : C := .lit (.bool b)
abbrev dv (c : C) : D := .one (.c c)
abbrev ints (xs : List Int) : List (List C) := xs.map fun x => [li x]
abbrev ls (s : ByteArray) : C := .lit (.string s)

structure Lnk where
  kind : Int
  tgt : Int
deriving DecidableEq
structure Sns where
  gloss : ByteArray
  txt : ByteArray
deriving DecidableEq
structure Phon where
  name : ByteArray
  feat : Int
deriving DecidableEq
structure Ent where
  id : Int
  form : List Int
  cls : Int
  alts : List (List Int)
  main : Int
  senses : List Sns
  links : List Lnk
  refs : List Lnk
deriving DecidableEq

def Lnk.enc (x : Lnk) : List C := [li x.kind, li x.tgt]
def Sns.enc (x : Sns) : List C := [ls x.gloss, ls x.txt]
def Phon.enc (x : Phon) : List C := [ls x.name, li x.feat]
abbrev altC (a : List Int) : List C := [.sl 1 (ints a)]
def Ent.enc (e : Ent) : List C := [li e.id, .sl 1 (ints e.form), li e.cls, .sl 1 (e.alts.map altC), li e.main, .sl 2 (e.senses.map Sns.enc), .sl 2 (e.links.map Lnk.enc), .sl 2 (e.refs.map Lnk.enc)]
def Ent.row (e : Ent) : List T := [.c (li e.id), .c (.sl 1 (ints e.form)), .c (li e.cls), .c (.sl 1 (e.alts.map altC)), .c (li e.main), .c (.sl 2 (e.senses.map Sns.enc)), .c (.sl 2 (e.links.map Lnk.enc)), .c (.sl 2 (e.refs.map Lnk.enc))]
def Lnk.row (x : Lnk) : List T := [.c (li x.kind), .c (li x.tgt)]
def Sns.row (x : Sns) : List T := [.c (ls x.gloss), .c (ls x.txt)]
def invRow (g : List Phon) : List T := [.c (.sl 2 (g.map Phon.enc))]
def noEnt : Ent := ⟨0, [], 0, [], 0, [], [], []⟩

theorem ints_at {xs : List Int} {k : Nat} {x : Int} (h : xs[k]? = some x) : (ints xs)[k]? = some [li x] := by simp [h]
theorem bytesC_at {s : ByteArray} {k : Nat} {b : UInt8} (h : s.data.toList[k]? = some b) : (bytesC s)[k]? = some [.lit (.int .u8 b.toNat)] := by simp [bytesC, h]

theorem bytes_eq (a b : ByteArray) : (a == b) = true ↔ a = b := by
  constructor
  · intro h; cases a; cases b; rw [ByteArray.mk.injEq]; exact eq_of_beq h
  · intro h; subst h; cases a; exact beq_self_eq_true (α := Array UInt8) _
theorem bytes_ne {a b : ByteArray} (h : a ≠ b) : (a == b) = false := by
  cases h2 : (a == b)
  · rfl
  · exact absurd ((bytes_eq a b).1 h2) h

def ident (n : Int) : Bool := decide (1 ≤ n) && decide (n ≤ 1099511627776)

set_option maxRecDepth 10000 in

theorem ident_D (n : Int) : DCalls Tryd.prog 39 [dv (li n)] (dv (lb (ident n))) := by
  refine dcalls (N := 9) (rs := [.tmp 2]) (by kernel_rfl) Tryd.func39 rfl rfl rfl (by simp) ?_
  (repeat' (first | refine kA ?_ | refine kB ?_ | ((first | (refine kC (N := 9) rfl (by kernel_rfl) ?_) | refine kD ?_ | refine kE ?_ | refine kF ?_); simp (decide := true) only [go_sem, reduceIte, reduceCtorEq, jA, jB, jC, jD, jE, jF]) | (apply kG; (simp (decide := true) only [go_sem, reduceIte, reduceCtorEq, jA, jB, jC, jD, jE, jF]; rfl); all_goals (intro hcnd; first | (exact absurd hcnd (by decide)) | skip)) | ((first | refine kH ?_ ?_ | refine kI ?_ ?_) <;> (intro hcnd; simp (decide := true) only [go_sem, reduceIte, reduceCtorEq, jA, jB, jC, jD, jE, jF, hcnd]))))
  all_goals (simp_all [ident] <;> omega)

set_option maxRecDepth 10000 in
theorem rIdent_D (n : Int) : DCalls Tryd.prog 74 [dv (li n)] (dv (lb (ident n))) := by
  refine dcalls (N := 9) (rs := [.tmp 2]) (by kernel_rfl) Tryd.func74 rfl rfl rfl (by simp) ?_
  (repeat' (first | refine kA ?_ | refine kB ?_ | ((first | (refine kC (N := 9) rfl (by kernel_rfl) ?_) | refine kD ?_ | refine kE ?_ | refine kF ?_); simp (decide := true) only [go_sem, reduceIte, reduceCtorEq, jA, jB, jC, jD, jE, jF]) | (apply kG; (simp (decide := true) only [go_sem, reduceIte, reduceCtorEq, jA, jB, jC, jD, jE, jF]; rfl); all_goals (intro hcnd; first | (exact absurd hcnd (by decide)) | skip)) | ((first | refine kH ?_ ?_ | refine kI ?_ ?_) <;> (intro hcnd; simp (decide := true) only [go_sem, reduceIte, reduceCtorEq, jA, jB, jC, jD, jE, jF, hcnd]))))
  all_goals (simp_all [ident] <;> omega)

def okRef (r : Lnk) : Bool := ident r.kind && ident r.tgt

set_option maxRecDepth 10000 in
theorem named_D (r : Lnk) : DCalls Tryd.prog 58 [.agg r.row] (dv (lb (okRef r))) := by
  refine dcalls (N := 11) (rs := [.tmp 2]) (by kernel_rfl) Tryd.func58 rfl rfl rfl (by simp) ?_
  cases h : ident r.kind
  · (repeat' (first | refine kA ?_ | refine kB ?_ | ((first | (refine kC (N := 11) rfl (by kernel_rfl) ?_) | refine kD ?_ | refine kE ?_ | (refine kN (ident_D r.kind) (kP rfl) ?_) | (refine kO (ident_D r.kind) (kP rfl) ?_) | refine kF ?_); simp (decide := true) only [go_sem, reduceIte, reduceCtorEq, jA, jB, jC, jD, jE, jF, h, Lnk.row]) | (apply kG; (simp (decide := true) only [go_sem, reduceIte, reduceCtorEq, jA, jB, jC, jD, jE, jF, h, Lnk.row]; rfl); all_goals (intro hcnd; first | (exact absurd hcnd (by decide)) | skip)) | ((first | refine kH ?_ ?_ | refine kI ?_ ?_) <;> (intro hcnd; simp (decide := true) only [go_sem, reduceIte, reduceCtorEq, jA, jB, jC, jD, jE, jF, hcnd, h, Lnk.row]))))
    simp [okRef, h]
  · (repeat' (first | refine kA ?_ | refine kB ?_ | ((first | (refine kC (N := 11) rfl (by kernel_rfl) ?_) | refine kD ?_ | refine kE ?_ | (refine kN (ident_D r.kind) (kP rfl) ?_) | (refine kO (ident_D r.kind) (kP rfl) ?_) | (refine kN (ident_D r.tgt) (kP rfl) ?_) | (refine kO (ident_D r.tgt) (kP rfl) ?_) | refine kF ?_); simp (decide := true) only [go_sem, reduceIte, reduceCtorEq, jA, jB, jC, jD, jE, jF, h, Lnk.row]) | (apply kG; (simp (decide := true) only [go_sem, reduceIte, reduceCtorEq, jA, jB, jC, jD, jE, jF, h, Lnk.row]; rfl); all_goals (intro hcnd; first | (exact absurd hcnd (by decide)) | skip)) | ((first | refine kH ?_ ?_ | refine kI ?_ ?_) <;> (intro hcnd; simp (decide := true) only [go_sem, reduceIte, reduceCtorEq, jA, jB, jC, jD, jE, jF, hcnd, h, Lnk.row]))))
    simp [okRef, h]

set_option maxRecDepth 10000 in
theorem rRef_D (r : Lnk) : DCalls Tryd.prog 76 [.agg r.row] (dv (lb (okRef r))) := by
  refine dcalls (N := 11) (rs := [.tmp 2]) (by kernel_rfl) Tryd.func76 rfl rfl rfl (by simp) ?_
  cases h : ident r.kind
  · (repeat' (first | refine kA ?_ | refine kB ?_ | ((first | (refine kC (N := 11) rfl (by kernel_rfl) ?_) | refine kD ?_ | refine kE ?_ | (refine kN (rIdent_D r.kind) (kP rfl) ?_) | (refine kO (rIdent_D r.kind) (kP rfl) ?_) | refine kF ?_); simp (decide := true) only [go_sem, reduceIte, reduceCtorEq, jA, jB, jC, jD, jE, jF, h, Lnk.row]) | (apply kG; (simp (decide := true) only [go_sem, reduceIte, reduceCtorEq, jA, jB, jC, jD, jE, jF, h, Lnk.row]; rfl); all_goals (intro hcnd; first | (exact absurd hcnd (by decide)) | skip)) | ((first | refine kH ?_ ?_ | refine kI ?_ ?_) <;> (intro hcnd; simp (decide := true) only [go_sem, reduceIte, reduceCtorEq, jA, jB, jC, jD, jE, jF, hcnd, h, Lnk.row]))))
    simp [okRef, h]
  · (repeat' (first | refine kA ?_ | refine kB ?_ | ((first | (refine kC (N := 11) rfl (by kernel_rfl) ?_) | refine kD ?_ | refine kE ?_ | (refine kN (rIdent_D r.kind) (kP rfl) ?_) | (refine kO (rIdent_D r.kind) (kP rfl) ?_) | (refine kN (rIdent_D r.tgt) (kP rfl) ?_) | (refine kO (rIdent_D r.tgt) (kP rfl) ?_) | refine kF ?_); simp (decide := true) only [go_sem, reduceIte, reduceCtorEq, jA, jB, jC, jD, jE, jF, h, Lnk.row]) | (apply kG; (simp (decide := true) only [go_sem, reduceIte, reduceCtorEq, jA, jB, jC, jD, jE, jF, h, Lnk.row]; rfl); all_goals (intro hcnd; first | (exact absurd hcnd (by decide)) | skip)) | ((first | refine kH ?_ ?_ | refine kI ?_ ?_) <;> (intro hcnd; simp (decide := true) only [go_sem, reduceIte, reduceCtorEq, jA, jB, jC, jD, jE, jF, hcnd, h, Lnk.row]))))
    simp [okRef, h]

def lessL (a b : Lnk) : Bool := decide (a.kind < b.kind) || (a.kind == b.kind && decide (a.tgt < b.tgt))

set_option maxRecDepth 10000 in
theorem prec_D (a b : Lnk) : DCalls Tryd.prog 77 [.agg a.row, .agg b.row] (dv (lb (lessL a b))) := by
  refine dcalls (N := 24) (rs := [.tmp 4]) (by kernel_rfl) Tryd.func77 rfl rfl rfl (by simp) ?_
  (repeat' (first | refine kA ?_ | refine kB ?_ | ((first | (refine kC (N := 24) rfl (by kernel_rfl) ?_) | refine kD ?_ | refine kE ?_ | refine kF ?_); simp (decide := true) only [go_sem, reduceIte, reduceCtorEq, jA, jB, jC, jD, jE, jF, Lnk.row]) | (apply kG; (simp (decide := true) only [go_sem, reduceIte, reduceCtorEq, jA, jB, jC, jD, jE, jF, Lnk.row]; rfl); all_goals (intro hcnd; first | (exact absurd hcnd (by decide)) | skip)) | ((first | refine kH ?_ ?_ | refine kI ?_ ?_) <;> (intro hcnd; simp (decide := true) only [go_sem, reduceIte, reduceCtorEq, jA, jB, jC, jD, jE, jF, hcnd, Lnk.row]))))
  all_goals simp_all [lessL]

def segOk (g : List Phon) (n : Int) : Bool := decide (1 ≤ n) && decide (n ≤ (g.length : Int))

set_option maxRecDepth 10000 in
theorem seg_D (g : List Phon) (n : Int) : DCalls Tryd.prog 95 [.agg (invRow g), dv (li n)] (dv (lb (segOk g n))) := by
  refine dcalls (N := 14) (rs := [.tmp 4]) (by kernel_rfl) Tryd.func95 rfl rfl rfl (by simp) ?_
  (repeat' (first | refine kA ?_ | refine kB ?_ | ((first | (refine kC (N := 14) rfl (by kernel_rfl) ?_) | refine kD ?_ | refine kE ?_ | refine kF ?_); simp (decide := true) only [go_sem, reduceIte, reduceCtorEq, jA, jB, jC, jD, jE, jF, invRow]) | (apply kG; (simp (decide := true) only [go_sem, reduceIte, reduceCtorEq, jA, jB, jC, jD, jE, jF, invRow]; rfl); all_goals (intro hcnd; first | (exact absurd hcnd (by decide)) | skip)) | ((first | refine kH ?_ ?_ | refine kI ?_ ?_) <;> (intro hcnd; simp (decide := true) only [go_sem, reduceIte, reduceCtorEq, jA, jB, jC, jD, jE, jF, hcnd, invRow]))))
  all_goals (simp_all [segOk] <;> omega)

set_option maxRecDepth 10000 in
theorem rIs_D (g : List Phon) (n : Int) : DCalls Tryd.prog 97 [.agg (invRow g), dv (li n)] (dv (lb (segOk g n))) := by
  refine dcalls (N := 14) (rs := [.tmp 4]) (by kernel_rfl) Tryd.func97 rfl rfl rfl (by simp) ?_
  (repeat' (first | refine kA ?_ | refine kB ?_ | ((first | (refine kC (N := 14) rfl (by kernel_rfl) ?_) | refine kD ?_ | refine kE ?_ | refine kF ?_); simp (decide := true) only [go_sem, reduceIte, reduceCtorEq, jA, jB, jC, jD, jE, jF, invRow]) | (apply kG; (simp (decide := true) only [go_sem, reduceIte, reduceCtorEq, jA, jB, jC, jD, jE, jF, invRow]; rfl); all_goals (intro hcnd; first | (exact absurd hcnd (by decide)) | skip)) | ((first | refine kH ?_ ?_ | refine kI ?_ ?_) <;> (intro hcnd; simp (decide := true) only [go_sem, reduceIte, reduceCtorEq, jA, jB, jC, jD, jE, jF, hcnd, invRow]))))
  all_goals (simp_all [segOk] <;> omega)

def cmpI (a b : Int) : Int := if a < b then -1 else if b < a then 1 else 0

set_option maxRecDepth 10000 in
theorem isNaN_D (a : Int) : DCalls Tryd.prog 96 [dv (li a)] (dv (lb false)) := by
  refine dcalls (N := 6) (rs := [.tmp 2]) (by kernel_rfl) Tryd.func96 rfl rfl rfl (by simp) ?_
  have h : (a != a) = false := by simp
  (repeat' (first | refine kA ?_ | refine kB ?_ | ((first | (refine kC (N := 6) rfl (by kernel_rfl) ?_) | refine kD ?_ | refine kE ?_ | refine kF ?_); simp (decide := true) only [go_sem, reduceIte, reduceCtorEq, jA, jB, jC, jD, jE, jF, h]) | (apply kG; (simp (decide := true) only [go_sem, reduceIte, reduceCtorEq, jA, jB, jC, jD, jE, jF, h]; rfl); all_goals (intro hcnd; first | (exact absurd hcnd (by decide)) | skip))))

set_option maxRecDepth 10000 in
theorem cmp_D (a b : Int) : DCalls Tryd.prog 73 [dv (li a), dv (li b)] (dv (li (cmpI a b))) := by
  refine dcalls (N := 20) (rs := [.tmp 4]) (by kernel_rfl) Tryd.func73 rfl rfl rfl (by simp) ?_
  (repeat' (first | refine kA ?_ | refine kB ?_ | ((first | (refine kC (N := 20) rfl (by kernel_rfl) ?_) | refine kD ?_ | refine kE ?_ | (refine kN (isNaN_D a) (kP rfl) ?_) | (refine kO (isNaN_D a) (kP rfl) ?_) | (refine kN (isNaN_D b) (kP rfl) ?_) | (refine kO (isNaN_D b) (kP rfl) ?_) | refine kF ?_); simp (decide := true) only [go_sem, reduceIte, reduceCtorEq, jA, jB, jC, jD, jE, jF]) | (apply kG; (simp (decide := true) only [go_sem, reduceIte, reduceCtorEq, jA, jB, jC, jD, jE, jF]; rfl); all_goals (intro hcnd; first | (exact absurd hcnd (by decide)) | skip))))
  all_goals first | (simp_all [cmpI]; done) | (simp only [cmpI]; simp at *; split <;> first | rfl | omega | (split <;> first | rfl | omega))

def orI : List Int → Int
  | [] => 0
  | x :: l => if x = 0 then orI l else x
end Go.Proofs.YtiaamlaibfpdgaaDoor

/- Strings: the reference's characters. -/
namespace Go.Proofs.YtiaamlaibfpdgaaDoor
open Go.Dl
open Go.Dl renaming dw_seq → kA, dw_block → kB, dw_reg → kC, dw_skip → kD, dw_exit → kE, dw_ret → kF, dw_cond → kG, guardC_f → kH, guardC_t → kI, dw_drw → kJ, dw_weaken → kK, sub_kn → kL, sub_ml → kM
open Go.Dl.CallC renaming mk → kN, light → kO
open Go.Dl.LeL renaming of_eq → kP
attribute [local irreducible] DW DCalls ECalls wk IW

set_option maxRecDepth 10000 in

theorem scalar_D (p : Nat) : DCalls Tryd.prog 105 [dv (li p)] (dv (lb (decide (scalN p)))) := by
  refine dcalls (N := 17) (rs := [.tmp 2]) (by kernel_rfl) Tryd.func105 rfl rfl rfl (by simp) ?_
  have t0 : decide ((0 : Int) ≤ (p : Int)) = true := by simp
  rcases Bool.eq_false_or_eq_true (decide ((p : Int) ≤ 1114111)) with t1 | t1
  rotate_left
  · (repeat' (first | refine kA ?_ | refine kB ?_ | ((first | (refine kC (N := 17) rfl (by kernel_rfl) ?_) | refine kD ?_ | refine kE ?_ | refine kF ?_); simp (decide := true) only [go_sem, reduceIte, reduceCtorEq, jA, jB, jC, jD, jE, jF, t0, t1]) | (apply kG; (simp (decide := true) only [go_sem, reduceIte, reduceCtorEq, jA, jB, jC, jD, jE, jF, t0, t1]; rfl); all_goals (intro hcnd; first | (exact absurd hcnd (by decide)) | skip)) | ((first | refine kH ?_ ?_ | refine kI ?_ ?_) <;> (intro hcnd; simp (decide := true) only [go_sem, reduceIte, reduceCtorEq, jA, jB, jC, jD, jE, jF, hcnd, t0, t1]))))
    have : ¬ scalN p := fun h => by simp at t1; have := h.1; omega
    simp [this]
  rcases Bool.eq_false_or_eq_true (decide ((p : Int) < 55296)) with t2 | t2
  · (repeat' (first | refine kA ?_ | refine kB ?_ | ((first | (refine kC (N := 17) rfl (by kernel_rfl) ?_) | refine kD ?_ | refine kE ?_ | refine kF ?_); simp (decide := true) only [go_sem, reduceIte, reduceCtorEq, jA, jB, jC, jD, jE, jF, t0, t1, t2]) | (apply kG; (simp (decide := true) only [go_sem, reduceIte, reduceCtorEq, jA, jB, jC, jD, jE, jF, t0, t1, t2]; rfl); all_goals (intro hcnd; first | (exact absurd hcnd (by decide)) | skip)) | ((first | refine kH ?_ ?_ | refine kI ?_ ?_) <;> (intro hcnd; simp (decide := true) only [go_sem, reduceIte, reduceCtorEq, jA, jB, jC, jD, jE, jF, hcnd, t0, t1, t2]))))
    have : scalN p := ⟨by simp at t1; omega, by simp at t2; omega⟩
    simp [this]
  rcases Bool.eq_false_or_eq_true (decide ((57343 : Int) < (p : Int))) with t3 | t3
  · (repeat' (first | refine kA ?_ | refine kB ?_ | ((first | (refine kC (N := 17) rfl (by kernel_rfl) ?_) | refine kD ?_ | refine kE ?_ | refine kF ?_); simp (decide := true) only [go_sem, reduceIte, reduceCtorEq, jA, jB, jC, jD, jE, jF, t0, t1, t2, t3]) | (apply kG; (simp (decide := true) only [go_sem, reduceIte, reduceCtorEq, jA, jB, jC, jD, jE, jF, t0, t1, t2, t3]; rfl); all_goals (intro hcnd; first | (exact absurd hcnd (by decide)) | skip)) | ((first | refine kH ?_ ?_ | refine kI ?_ ?_) <;> (intro hcnd; simp (decide := true) only [go_sem, reduceIte, reduceCtorEq, jA, jB, jC, jD, jE, jF, hcnd, t0, t1, t2, t3]))))
    have : scalN p := ⟨by simp at t1; omega, by simp at t3; omega⟩
    simp [this]
  · (repeat' (first | refine kA ?_ | refine kB ?_ | ((first | (refine kC (N := 17) rfl (by kernel_rfl) ?_) | refine kD ?_ | refine kE ?_ | refine kF ?_); simp (decide := true) only [go_sem, reduceIte, reduceCtorEq, jA, jB, jC, jD, jE, jF, t0, t1, t2, t3]) | (apply kG; (simp (decide := true) only [go_sem, reduceIte, reduceCtorEq, jA, jB, jC, jD, jE, jF, t0, t1, t2, t3]; rfl); all_goals (intro hcnd; first | (exact absurd hcnd (by decide)) | skip)) | ((first | refine kH ?_ ?_ | refine kI ?_ ?_) <;> (intro hcnd; simp (decide := true) only [go_sem, reduceIte, reduceCtorEq, jA, jB, jC, jD, jE, jF, hcnd, t0, t1, t2, t3]))))
    have : ¬ scalN p := fun h => by simp at t2 t3; have := h.2; omega
    simp [this]

def encB (p : Nat) : ByteArray := ⟨((encN p).map UInt8.ofNat).toArray⟩
theorem wrap_u8 {x : Int} (h : 0 ≤ x) (h' : x < 256) : IntKind.u8.wrap x = x := by
  have : IntKind.u8.wrap x = x % 256 := by simp [IntKind.wrap, IntKind.bits, IntKind.signed]
  rw [this]; omega

theorem tdiv_nat (p k : Nat) : ((p : Int).tdiv (k : Int)) = ((p / k : Nat) : Int) := by
  rw [Int.tdiv_eq_ediv_of_nonneg (by omega)]; rfl
theorem tmod_nat (p k : Nat) : ((p : Int).tmod (k : Int)) = ((p % k : Nat) : Int) := by
  rw [Int.tmod_eq_emod_of_nonneg (by omega)]; rfl
theorem wrapN {a x : Nat} {y : Int} (h : y = (x : Int)) (hx : x < 9223372036854775808) : IntKind.i64.wrap ((a : Int) + y) = IntKind.i64.wrap (((a + x : Nat)) : Int) := by
  rw [h]; rfl
theorem wrap8 {a x : Nat} (h : a + x < 256) : IntKind.u8.wrap (IntKind.i64.wrap ((a : Int) + (x : Int))) = ((a + x : Nat) : Int) := by
  rw [wrap_i64 (by omega) (by omega), wrap_u8 (by omega) (by omega)]; rfl
theorem wrap64n {x : Nat} (h : x < 9223372036854775808) : IntKind.i64.wrap (x : Int) = (x : Int) := wrap_i64 (by omega) (by omega)

set_option maxRecDepth 10000 in

set_option maxHeartbeats 2000000 in
theorem encoded_D (p : Nat) (hp : p ≤ 1114111) : DCalls Tryd.prog 106 [dv (li p)] (dv (ls (encB p))) := by
  have d1 : (p : Int).tdiv 64 = ((p / 64 : Nat) : Int) := tdiv_nat p 64
  have d2 : (p : Int).tdiv 4096 = ((p / 4096 : Nat) : Int) := tdiv_nat p 4096
  have d3 : (p : Int).tdiv 262144 = ((p / 262144 : Nat) : Int) := tdiv_nat p 262144
  have m0 : (p : Int).tmod 64 = ((p % 64 : Nat) : Int) := tmod_nat p 64
  have m1 : ((p / 64 : Nat) : Int).tmod 64 = ((p / 64 % 64 : Nat) : Int) := tmod_nat (p / 64) 64
  have m2 : ((p / 4096 : Nat) : Int).tmod 64 = ((p / 4096 % 64 : Nat) : Int) := tmod_nat (p / 4096) 64
  have q1 : IntKind.i64.wrap ((p / 64 : Nat) : Int) = ((p / 64 : Nat) : Int) := wrap64n (by omega)
  have q2 : IntKind.i64.wrap ((p / 4096 : Nat) : Int) = ((p / 4096 : Nat) : Int) := wrap64n (by omega)
  have q3 : IntKind.i64.wrap ((p / 262144 : Nat) : Int) = ((p / 262144 : Nat) : Int) := wrap64n (by omega)
  have w0 : IntKind.u8.wrap (IntKind.i64.wrap (128 + ((p % 64 : Nat) : Int))) = ((128 + p % 64 : Nat) : Int) := wrap8 (a := 128) (by omega)
  have w1 : IntKind.u8.wrap (IntKind.i64.wrap (128 + ((p / 64 % 64 : Nat) : Int))) = ((128 + p / 64 % 64 : Nat) : Int) := wrap8 (a := 128) (by omega)
  have w2 : IntKind.u8.wrap (IntKind.i64.wrap (128 + ((p / 4096 % 64 : Nat) : Int))) = ((128 + p / 4096 % 64 : Nat) : Int) := wrap8 (a := 128) (by omega)
  refine dcalls (N := 61) (rs := [.tmp 2]) (by kernel_rfl) Tryd.func106 rfl rfl rfl (by simp) ?_
  by_cases h1 : p < 128
  · have t1 : decide ((p : Int) < 128) = true := by simp; omega
    have w3 : IntKind.u8.wrap (p : Int) = p := wrap_u8 (by omega) (by omega)
    (repeat' (first | refine kA ?_ | refine kB ?_ | ((first | (refine kC (N := 61) rfl (by kernel_rfl) ?_) | refine kD ?_ | refine kE ?_ | refine kF ?_); simp (decide := true) only [go_sem, reduceIte, reduceCtorEq, jA, jB, jC, jD, jE, jF, t1, w3]) | (apply kG; (simp (decide := true) only [go_sem, reduceIte, reduceCtorEq, jA, jB, jC, jD, jE, jF, t1, w3]; rfl); all_goals (intro hcnd; first | (exact absurd hcnd (by decide)) | skip))))
    simp [encB, encN, h1]
  · have t1 : decide ((p : Int) < 128) = false := by simp; omega
    by_cases h2 : p < 2048
    · have t2 : decide ((p : Int) < 2048) = true := by simp; omega
      have w3 : IntKind.u8.wrap (IntKind.i64.wrap (192 + ((p / 64 : Nat) : Int))) = ((192 + p / 64 : Nat) : Int) := wrap8 (a := 192) (by omega)
      (repeat' (first | refine kA ?_ | refine kB ?_ | ((first | (refine kC (N := 61) rfl (by kernel_rfl) ?_) | refine kD ?_ | refine kE ?_ | refine kF ?_); simp (decide := true) only [go_sem, reduceIte, reduceCtorEq, jA, jB, jC, jD, jE, jF, t1, t2, d1, q1, m0, w0, w3]) | (apply kG; (simp (decide := true) only [go_sem, reduceIte, reduceCtorEq, jA, jB, jC, jD, jE, jF, t1, t2, d1, q1, m0, w0, w3]; rfl); all_goals (intro hcnd; first | (exact absurd hcnd (by decide)) | skip))))
      simp only [encB, encN, h1, h2, if_false, if_true, List.map_cons, List.map_nil, Int.toNat_natCast]
    · have t2 : decide ((p : Int) < 2048) = false := by simp; omega
      by_cases h3 : p < 65536
      · have t3 : decide ((p : Int) < 65536) = true := by simp; omega
        have w3 : IntKind.u8.wrap (IntKind.i64.wrap (224 + ((p / 4096 : Nat) : Int))) = ((224 + p / 4096 : Nat) : Int) := wrap8 (a := 224) (by omega)
        (repeat' (first | refine kA ?_ | refine kB ?_ | ((first | (refine kC (N := 61) rfl (by kernel_rfl) ?_) | refine kD ?_ | refine kE ?_ | refine kF ?_); simp (decide := true) only [go_sem, reduceIte, reduceCtorEq, jA, jB, jC, jD, jE, jF, t1, t2, t3, d1, d2, q1, q2, m0, m1, w0, w1, w3]) | (apply kG; (simp (decide := true) only [go_sem, reduceIte, reduceCtorEq, jA, jB, jC, jD, jE, jF, t1, t2, t3, d1, d2, q1, q2, m0, m1, w0, w1, w3]; rfl); all_goals (intro hcnd; first | (exact absurd hcnd (by decide)) | skip))))
        simp only [encB, encN, h1, h2, h3, if_false, if_true, List.map_cons, List.map_nil, Int.toNat_natCast]
      · have t3 : decide ((p : Int) < 65536) = false := by simp; omega
        have w3 : IntKind.u8.wrap (IntKind.i64.wrap (240 + ((p / 262144 : Nat) : Int))) = ((240 + p / 262144 : Nat) : Int) := wrap8 (a := 240) (by omega)
        (repeat' (first | refine kA ?_ | refine kB ?_ | ((first | (refine kC (N := 61) rfl (by kernel_rfl) ?_) | refine kD ?_ | refine kE ?_ | refine kF ?_); simp (decide := true) only [go_sem, reduceIte, reduceCtorEq, jA, jB, jC, jD, jE, jF, t1, t2, t3, d1, d2, d3, q1, q2, q3, m0, m1, m2, w0, w1, w2, w3]) | (apply kG; (simp (decide := true) only [go_sem, reduceIte, reduceCtorEq, jA, jB, jC, jD, jE, jF, t1, t2, t3, d1, d2, d3, q1, q2, q3, m0, m1, m2, w0, w1, w2, w3]; rfl); all_goals (intro hcnd; first | (exact absurd hcnd (by decide)) | skip))))
        simp only [encB, encN, h1, h2, h3, if_false, if_true, List.map_cons, List.map_nil, Int.toNat_natCast]
end Go.Proofs.YtiaamlaibfpdgaaDoor

namespace Go.Proofs.YtiaamlaibfpdgaaDoor
abbrev kpm0 : List (Nat × Go.Dl.Mode) := [(0, .light), (1, .step), (2, .light), (3, .light), (4, .light), (5, .light), (6, .light), (7, .light), (8, .light), (9, .light), (10, .light), (11, .light), (12, .light), (13, .light)]
end Go.Proofs.YtiaamlaibfpdgaaDoor
/- Strings: the reference's first character of a string. -/
namespace Go.Proofs.YtiaamlaibfpdgaaDoor
open Go.Dl
open Go.Dl renaming dw_seq → kA, dw_block → kB, dw_reg → kC, dw_skip → kD, dw_exit → kE, dw_ret → kF, dw_cond → kG, guardC_f → kH, guardC_t → kI, dw_drw → kJ, dw_weaken → kK, sub_kn → kL, sub_ml → kM
open Go.Dl.CallC renaming mk → kN, light → kO
open Go.Dl.LeL renaming of_eq → kP
attribute [local irreducible] DW DCalls ECalls wk IW

def firstR (s : ByteArray) (a : Nat) : Int × Int :=
  match fstL (s.data.toList.drop a) with
  | some (p, k) => (p, k)
  | none => (-1, 0)

set_option maxRecDepth 10000 in

set_option maxHeartbeats 4000000 in
theorem first_D (s : ByteArray) (a : Nat) (ha : a < s.size) (hs : s.size ≤ 1048576) : DCalls Tryd.prog 90 [dv (ls s), dv (li a)] (.tup [dv (li (firstR s a).1), dv (li (firstR s a).2)]) := by
  obtain ⟨bs, hbs⟩ : ∃ bs, bs = s.data.toList.drop a := ⟨_, rfl⟩
  have hlen : bs.length + a = s.size := by rw [hbs]; simp; omega
  have hx0 : s.data.toList[a]? = some (bs.getD 0 0) := by
    rw [hbs, List.getD_eq_getElem?_getD, List.getElem?_drop, Nat.add_zero]
    have : a < s.data.toList.length := by simpa using ha
    rw [List.getElem?_eq_getElem this]; rfl
  have hb0 : bAt bs 0 < 256 := UInt8.toNat_lt _
  have hw0 : IntKind.i64.wrap (((bs.getD 0 0).toNat : Nat) : Int) = ((bAt bs 0 : Nat) : Int) := wrap64n (by have := UInt8.toNat_lt (bs.getD 0 0); omega)
  obtain ⟨b0, hbb⟩ : ∃ b0, b0 = bAt bs 0 := ⟨_, rfl⟩
  rw [← hbb] at hw0 hb0
  have hbl := base_le b0
  have hmax : maxLen = 9223372036854775807 := rfl
  refine dcalls (N := 65) (rs := [.tmp 4, .tmp 5]) (by kernel_rfl) Tryd.func90 rfl rfl rfl (by simp) ?_
  refine kA ?_
  refine kC (N := 65) rfl (by kernel_rfl) ?_; simp (decide := true) only [go_sem, reduceIte, reduceCtorEq, jA, jB, jC, jD, jE, jF]
  refine kA ?_
  refine kC (N := 65) rfl (by kernel_rfl) ?_; simp (decide := true) only [go_sem, reduceIte, reduceCtorEq, jA, jB, jC, jD, jE, jF, hx0, hw0]
  refine kA ?_
  refine kC (N := 65) rfl (by kernel_rfl) ?_; simp (decide := true) only [go_sem, reduceIte, reduceCtorEq, jA, jB, jC, jD, jE, jF, hx0, hw0]
  refine kA ?_
  refine dw_afterN (fun _ : Unit => kn 65 [(0, dv (ls s)), (1, dv (li a)), (6, dv (li (baseN b0))), (7, dv (li (leadN b0)))] noMem) (fun _ => True) ?_ ?_
  · rcases lead_cases b0 with ⟨e, c⟩ | ⟨e, c, c'⟩ | ⟨e, c, c'⟩ | ⟨e, c⟩
    · have t1 : decide ((240 : Int) ≤ (b0 : Int)) = false := by simp; omega
      have t2 : decide ((224 : Int) ≤ (b0 : Int)) = false := by simp; omega
      have t3 : decide ((192 : Int) ≤ (b0 : Int)) = false := by simp; omega
      have hb : baseN b0 = b0 := by unfold baseN; (repeat' split) <;> omega
      (repeat' (first | refine kA ?_ | refine kB ?_ | ((first | (refine kC (N := 65) rfl (by kernel_rfl) ?_) | (apply kJ (id := 18) (N := 65) kpm0; kernel_rfl; rfl; kernel_rfl; (repeat (first | exact Picks.nil | (apply Picks.cons; rfl)))) | refine kD ?_ | refine kE ?_ | refine kF ?_); simp (decide := true) only [go_sem, reduceIte, reduceCtorEq, jA, jB, jC, jD, jE, jF, t1, t2, t3]) | (apply kG; (simp (decide := true) only [go_sem, reduceIte, reduceCtorEq, jA, jB, jC, jD, jE, jF, t1, t2, t3]; rfl); all_goals (intro hcnd; first | (exact absurd hcnd (by decide)) | skip)) | ((first | refine kH ?_ ?_ | refine kI ?_ ?_) <;> (intro hcnd; simp (decide := true) only [go_sem, reduceIte, reduceCtorEq, jA, jB, jC, jD, jE, jF, hcnd, t1, t2, t3]))))
      exact ⟨(), kL rfl (by simp (decide := true) only [go_sem, reduceIte, reduceCtorEq, jA, jB, jC, jD, jE, jF, e, hb]) (by simp [noMem])⟩
    · have t1 : decide ((240 : Int) ≤ (b0 : Int)) = false := by simp; omega
      have t2 : decide ((224 : Int) ≤ (b0 : Int)) = false := by simp; omega
      have t3 : decide ((192 : Int) ≤ (b0 : Int)) = true := by simp; omega
      have hb : IntKind.i64.wrap ((b0 : Int) - 192) = (baseN b0 : Int) := by
        have : baseN b0 = b0 - 192 := by unfold baseN; (repeat' split) <;> omega
        rw [this, wrap_i64 (by omega) (by omega)]; omega
      (repeat' (first | refine kA ?_ | refine kB ?_ | ((first | (refine kC (N := 65) rfl (by kernel_rfl) ?_) | (apply kJ (id := 18) (N := 65) kpm0; kernel_rfl; rfl; kernel_rfl; (repeat (first | exact Picks.nil | (apply Picks.cons; rfl)))) | refine kD ?_ | refine kE ?_ | refine kF ?_); simp (decide := true) only [go_sem, reduceIte, reduceCtorEq, jA, jB, jC, jD, jE, jF, t1, t2, t3, hb]) | (apply kG; (simp (decide := true) only [go_sem, reduceIte, reduceCtorEq, jA, jB, jC, jD, jE, jF, t1, t2, t3, hb]; rfl); all_goals (intro hcnd; first | (exact absurd hcnd (by decide)) | skip)) | ((first | refine kH ?_ ?_ | refine kI ?_ ?_) <;> (intro hcnd; simp (decide := true) only [go_sem, reduceIte, reduceCtorEq, jA, jB, jC, jD, jE, jF, hcnd, t1, t2, t3, hb]))))
      exact ⟨(), kL rfl (by simp (decide := true) only [go_sem, reduceIte, reduceCtorEq, jA, jB, jC, jD, jE, jF, e]) (by simp [noMem])⟩
    · have t1 : decide ((240 : Int) ≤ (b0 : Int)) = false := by simp; omega
      have t2 : decide ((224 : Int) ≤ (b0 : Int)) = true := by simp; omega
      have hb : IntKind.i64.wrap ((b0 : Int) - 224) = (baseN b0 : Int) := by
        have : baseN b0 = b0 - 224 := by unfold baseN; (repeat' split) <;> omega
        rw [this, wrap_i64 (by omega) (by omega)]; omega
      (repeat' (first | refine kA ?_ | refine kB ?_ | ((first | (refine kC (N := 65) rfl (by kernel_rfl) ?_) | (apply kJ (id := 18) (N := 65) kpm0; kernel_rfl; rfl; kernel_rfl; (repeat (first | exact Picks.nil | (apply Picks.cons; rfl)))) | refine kD ?_ | refine kE ?_ | refine kF ?_); simp (decide := true) only [go_sem, reduceIte, reduceCtorEq, jA, jB, jC, jD, jE, jF, t1, t2, hb]) | (apply kG; (simp (decide := true) only [go_sem, reduceIte, reduceCtorEq, jA, jB, jC, jD, jE, jF, t1, t2, hb]; rfl); all_goals (intro hcnd; first | (exact absurd hcnd (by decide)) | skip)) | ((first | refine kH ?_ ?_ | refine kI ?_ ?_) <;> (intro hcnd; simp (decide := true) only [go_sem, reduceIte, reduceCtorEq, jA, jB, jC, jD, jE, jF, hcnd, t1, t2, hb]))))
      exact ⟨(), kL rfl (by simp (decide := true) only [go_sem, reduceIte, reduceCtorEq, jA, jB, jC, jD, jE, jF, e]) (by simp [noMem])⟩
    · have t1 : decide ((240 : Int) ≤ (b0 : Int)) = true := by simp; omega
      have hb : IntKind.i64.wrap ((b0 : Int) - 240) = (baseN b0 : Int) := by
        have : baseN b0 = b0 - 240 := by unfold baseN; (repeat' split) <;> omega
        rw [this, wrap_i64 (by omega) (by omega)]; omega
      (repeat' (first | refine kA ?_ | refine kB ?_ | ((first | (refine kC (N := 65) rfl (by kernel_rfl) ?_) | (apply kJ (id := 18) (N := 65) kpm0; kernel_rfl; rfl; kernel_rfl; (repeat (first | exact Picks.nil | (apply Picks.cons; rfl)))) | refine kD ?_ | refine kE ?_ | refine kF ?_); simp (decide := true) only [go_sem, reduceIte, reduceCtorEq, jA, jB, jC, jD, jE, jF, t1, hb]) | (apply kG; (simp (decide := true) only [go_sem, reduceIte, reduceCtorEq, jA, jB, jC, jD, jE, jF, t1, hb]; rfl); all_goals (intro hcnd; first | (exact absurd hcnd (by decide)) | skip)) | ((first | refine kH ?_ ?_ | refine kI ?_ ?_) <;> (intro hcnd; simp (decide := true) only [go_sem, reduceIte, reduceCtorEq, jA, jB, jC, jD, jE, jF, hcnd, t1, hb]))))
      exact ⟨(), kL rfl (by simp (decide := true) only [go_sem, reduceIte, reduceCtorEq, jA, jB, jC, jD, jE, jF, e]) (by simp [noMem])⟩
  intro _ _
  have hl14 : 1 ≤ leadN b0 ∧ leadN b0 ≤ 4 := by rcases lead_cases b0 with h | h | h | h <;> omega
  have hw1 : IntKind.i64.wrap ((a : Int) + (leadN b0 : Int)) = ((a + leadN b0 : Nat) : Int) := by rw [wrap_i64 (by omega) (by omega)]; rfl
  by_cases hk : leadN b0 ≤ bs.length
  rotate_left
  · have t1 : decide ((s.size : Int) < ((a + leadN b0 : Nat) : Int)) = true := by simp; omega
    (repeat' (first | refine kA ?_ | refine kB ?_ | ((first | (refine kC (N := 65) rfl (by kernel_rfl) ?_) | (apply kJ (id := 18) (N := 65) kpm0; kernel_rfl; rfl; kernel_rfl; (repeat (first | exact Picks.nil | (apply Picks.cons; rfl)))) | refine kD ?_ | refine kE ?_ | refine kF ?_); simp (decide := true) only [go_sem, reduceIte, reduceCtorEq, jA, jB, jC, jD, jE, jF, hw1, t1]) | (apply kG; (simp (decide := true) only [go_sem, reduceIte, reduceCtorEq, jA, jB, jC, jD, jE, jF, hw1, t1]; rfl); all_goals (intro hcnd; first | (exact absurd hcnd (by decide)) | skip)) | ((first | refine kH ?_ ?_ | refine kI ?_ ?_) <;> (intro hcnd; simp (decide := true) only [go_sem, reduceIte, reduceCtorEq, jA, jB, jC, jD, jE, jF, hcnd, hw1, t1]))))
    have : firstR s a = (-1, 0) := by unfold firstR; rw [← hbs, fstL_short (by rw [← hbb]; omega)]
    rw [this]
  have t1 : decide ((s.size : Int) < ((a + leadN b0 : Nat) : Int)) = false := by simp; omega
  have hk' := hk
  rw [hbb] at hk'
  have htl := tail_len hk'
  rw [← hbb] at htl
  have hpf : ∀ k, k ≤ (tailL bs).length → pf (baseN b0) ((tailL bs).take k) < 268435456 := fun k hk => by
    have h1 := pf_lt ((tailL bs).take k) (baseN b0)
    have h2 : ((tailL bs).take k).length ≤ 3 := by rw [List.length_take]; omega
    have h3 : 64 ^ ((tailL bs).take k).length ≤ 64 ^ 3 := Nat.pow_le_pow_right (by omega) h2
    have h4 : (baseN b0 + 1) * 64 ^ ((tailL bs).take k).length ≤ 257 * 64 ^ 3 := Nat.mul_le_mul (by omega) h3
    omega
  (repeat' (first | refine kA ?_ | refine kB ?_ | ((first | (refine kC (N := 65) rfl (by kernel_rfl) ?_) | (apply kJ (id := 18) (N := 65) kpm0; kernel_rfl; rfl; kernel_rfl; (repeat (first | exact Picks.nil | (apply Picks.cons; rfl)))) | refine kD ?_ | refine kE ?_); simp (decide := true) only [go_sem, reduceIte, reduceCtorEq, jA, jB, jC, jD, jE, jF, hw1, t1]) | (apply kG; (simp (decide := true) only [go_sem, reduceIte, reduceCtorEq, jA, jB, jC, jD, jE, jF, hw1, t1]; rfl); all_goals (intro hcnd; first | (exact absurd hcnd (by decide)) | skip)) | ((first | refine kH ?_ ?_ | refine kI ?_ ?_) <;> (intro hcnd; simp (decide := true) only [go_sem, reduceIte, reduceCtorEq, jA, jB, jC, jD, jE, jF, hcnd, hw1, t1]))))
  refine dw_rng0 (tailL bs) (fun k => kn 65 [(0, dv (ls s)), (1, dv (li a)), (6, dv (li (pf (baseN b0) ((tailL bs).take k)))), (7, dv (li (leadN b0))), (8, dv (li ((k + 1 : Nat) : Int)))] noMem) (by omega) (kL rfl (by simp (decide := true) only [go_sem, reduceIte, reduceCtorEq, jA, jB, jC, jD, jE, jF, List.take_zero, pf, List.foldl_nil]) (by simp [noMem])) ?_ ?_
  · intro k b hb hkl hm htk _ _
    have u1 : decide (((k + 1 : Nat) : Int) < (leadN b0 : Int)) = true := by simp; omega
    have hp := hpf k (by omega)
    obtain ⟨q, hq⟩ : ∃ q, q = pf (baseN b0) ((tailL bs).take k) := ⟨_, rfl⟩
    have hps : pf (baseN b0) ((tailL bs).take (k + 1)) = q * 64 + b.toNat % 64 := by rw [htk, pf_snoc, hq]
    rw [← hq] at hp ⊢
    rw [hps]
    have hbt := UInt8.toNat_lt b
    have u2 : IntKind.i64.wrap ((q : Int) * 64) = ((q * 64 : Nat) : Int) := by rw [wrap_i64 (by omega) (by omega)]; omega
    have u3 : IntKind.i64.wrap ((a : Int) + ((k + 1 : Nat) : Int)) = ((a + (k + 1) : Nat) : Int) := by rw [wrap_i64 (by omega) (by omega)]; rfl
    have u4 : s.data.toList[a + (k + 1)]? = some b := by
      have := tail_at hb
      rw [hbs, List.getElem?_drop] at this; exact this
    have u5 : IntKind.i64.wrap ((b.toNat : Nat) : Int) = ((b.toNat : Nat) : Int) := wrap64n (by omega)
    have u6 : ((b.toNat : Nat) : Int).tmod 64 = ((b.toNat % 64 : Nat) : Int) := tmod_nat b.toNat 64
    have u7 : IntKind.i64.wrap (((q * 64 : Nat) : Int) + ((b.toNat % 64 : Nat) : Int)) = ((q * 64 + b.toNat % 64 : Nat) : Int) := by rw [wrap_i64 (by omega) (by omega)]; omega
    have u8 : IntKind.i64.wrap (((k + 1 : Nat) : Int) + 1) = ((k + 1 + 1 : Nat) : Int) := by rw [wrap_i64 (by omega) (by omega)]; rfl
    (repeat' (first | refine kA ?_ | refine kB ?_ | ((first | (refine kC (N := 65) rfl (by kernel_rfl) ?_) | (apply kJ (id := 18) (N := 65) kpm0; kernel_rfl; rfl; kernel_rfl; (repeat (first | exact Picks.nil | (apply Picks.cons; rfl)))) | refine kD ?_ | refine kE ?_ | refine kF ?_); simp (decide := true) only [go_sem, reduceIte, reduceCtorEq, jA, jB, jC, jD, jE, jF, u1, u2, u3, u4, u5, u6, u7, u8, Int.toNat_natCast]) | (apply kG; (simp (decide := true) only [go_sem, reduceIte, reduceCtorEq, jA, jB, jC, jD, jE, jF, u1, u2, u3, u4, u5, u6, u7, u8, Int.toNat_natCast]; rfl); all_goals (intro hcnd; first | (exact absurd hcnd (by decide)) | skip)) | ((first | refine kH ?_ ?_ | refine kI ?_ ?_) <;> (intro hcnd; simp (decide := true) only [go_sem, reduceIte, reduceCtorEq, jA, jB, jC, jD, jE, jF, hcnd, u1, u2, u3, u4, u5, u6, u7, u8, Int.toNat_natCast]))))
    exact kL rfl (by simp (decide := true) only [go_sem, reduceIte, reduceCtorEq, jA, jB, jC, jD, jE, jF]) (by simp [noMem])
  · intro _
    have u1 : decide ((((tailL bs).length + 1 : Nat) : Int) < (leadN b0 : Int)) = false := by simp; omega
    rw [List.take_length]
    have hp := hpf (tailL bs).length (Nat.le_refl _)
    rw [List.take_length] at hp
    have hf := fstL_eq hk'
    rw [← hbb] at hf
    obtain ⟨p, hpq⟩ : ∃ p, p = pf (baseN b0) (tailL bs) := ⟨_, rfl⟩
    rw [← hpq] at hf hp ⊢
    have hS := scalar_D p
    by_cases hsc : scalN p
    rotate_left
    · rw [decide_eq_false hsc] at hS
      rw [if_neg (fun h => hsc h.1)] at hf
      (repeat' (first | refine kA ?_ | refine kB ?_ | ((first | (refine kC (N := 65) rfl (by kernel_rfl) ?_) | (apply kJ (id := 18) (N := 65) kpm0; kernel_rfl; rfl; kernel_rfl; (repeat (first | exact Picks.nil | (apply Picks.cons; rfl)))) | refine kD ?_ | refine kE ?_ | (refine kN (hS) (kP rfl) ?_) | (refine kO (hS) (kP rfl) ?_) | refine kF ?_); simp (decide := true) only [go_sem, reduceIte, reduceCtorEq, jA, jB, jC, jD, jE, jF, u1]) | (apply kG; (simp (decide := true) only [go_sem, reduceIte, reduceCtorEq, jA, jB, jC, jD, jE, jF, u1]; rfl); all_goals (intro hcnd; first | (exact absurd hcnd (by decide)) | skip)) | ((first | refine kH ?_ ?_ | refine kI ?_ ?_) <;> (intro hcnd; simp (decide := true) only [go_sem, reduceIte, reduceCtorEq, jA, jB, jC, jD, jE, jF, hcnd, u1]))))
      have : firstR s a = (-1, 0) := by unfold firstR; rw [← hbs, hf]
      rw [this]
    rw [decide_eq_true hsc] at hS
    have hE := encoded_D p hsc.1
    have hsl : (s.extract a (a + leadN b0)).data.toList = bs.take (leadN b0) := by
      rw [hbs]
      simp [ByteArray.data_extract, List.drop_take]
    have u2 : (a ≤ a + leadN b0 ∧ a + leadN b0 ≤ s.size) = True := eq_true ⟨by omega, by omega⟩
    have hext : encB p = s.extract a (a + leadN b0) ↔ (encN p).map UInt8.ofNat = bs.take (leadN b0) := by
      rw [← hsl]
      constructor
      · intro h; rw [← h]; simp [encB]
      · intro h
        have : (encB p).data = (s.extract a (a + leadN b0)).data := by
          apply Array.ext'
          rw [← h]; simp [encB]
        cases h1 : encB p; cases h2 : s.extract a (a + leadN b0)
        rw [h1, h2] at this; simp at this; rw [this]
    by_cases he : encB p = s.extract a (a + leadN b0)
    · have u3 : (encB p == s.extract a (a + leadN b0)) = true := (bytes_eq _ _).2 he
      rw [if_pos ⟨hsc, hext.1 he⟩] at hf
      have : firstR s a = ((p : Int), ((leadN b0 : Nat) : Int)) := by unfold firstR; rw [← hbs, hf]
      rw [this]
      (repeat' (first | refine kA ?_ | refine kB ?_ | ((first | (refine kC (N := 65) rfl (by kernel_rfl) ?_) | (apply kJ (id := 18) (N := 65) kpm0; kernel_rfl; rfl; kernel_rfl; (repeat (first | exact Picks.nil | (apply Picks.cons; rfl)))) | refine kD ?_ | refine kE ?_ | (refine kN (hS) (kP rfl) ?_) | (refine kO (hS) (kP rfl) ?_) | (refine kN (hE) (kP rfl) ?_) | (refine kO (hE) (kP rfl) ?_) | refine kF ?_); simp (decide := true) only [go_sem, reduceIte, reduceCtorEq, jA, jB, jC, jD, jE, jF, u1, hw1, u2, u3, Int.toNat_natCast, Int.natCast_nonneg]) | (apply kG; (simp (decide := true) only [go_sem, reduceIte, reduceCtorEq, jA, jB, jC, jD, jE, jF, u1, hw1, u2, u3, Int.toNat_natCast, Int.natCast_nonneg]; rfl); all_goals (intro hcnd; first | (exact absurd hcnd (by decide)) | skip)) | ((first | refine kH ?_ ?_ | refine kI ?_ ?_) <;> (intro hcnd; simp (decide := true) only [go_sem, reduceIte, reduceCtorEq, jA, jB, jC, jD, jE, jF, hcnd, u1, hw1, u2, u3, Int.toNat_natCast, Int.natCast_nonneg]))))
    · have u3 : (encB p == s.extract a (a + leadN b0)) = false := bytes_ne he
      rw [if_neg (fun h => he (hext.2 h.2))] at hf
      have : firstR s a = (-1, 0) := by unfold firstR; rw [← hbs, hf]
      rw [this]
      (repeat' (first | refine kA ?_ | refine kB ?_ | ((first | (refine kC (N := 65) rfl (by kernel_rfl) ?_) | (apply kJ (id := 18) (N := 65) kpm0; kernel_rfl; rfl; kernel_rfl; (repeat (first | exact Picks.nil | (apply Picks.cons; rfl)))) | refine kD ?_ | refine kE ?_ | (refine kN (hS) (kP rfl) ?_) | (refine kO (hS) (kP rfl) ?_) | (refine kN (hE) (kP rfl) ?_) | (refine kO (hE) (kP rfl) ?_) | refine kF ?_); simp (decide := true) only [go_sem, reduceIte, reduceCtorEq, jA, jB, jC, jD, jE, jF, u1, hw1, u2, u3, Int.toNat_natCast, Int.natCast_nonneg]) | (apply kG; (simp (decide := true) only [go_sem, reduceIte, reduceCtorEq, jA, jB, jC, jD, jE, jF, u1, hw1, u2, u3, Int.toNat_natCast, Int.natCast_nonneg]; rfl); all_goals (intro hcnd; first | (exact absurd hcnd (by decide)) | skip)) | ((first | refine kH ?_ ?_ | refine kI ?_ ?_) <;> (intro hcnd; simp (decide := true) only [go_sem, reduceIte, reduceCtorEq, jA, jB, jC, jD, jE, jF, hcnd, u1, hw1, u2, u3, Int.toNat_natCast, Int.natCast_nonneg]))))
end Go.Proofs.YtiaamlaibfpdgaaDoor

/- Strings: the reference's characters of a string. -/
namespace Go.Proofs.YtiaamlaibfpdgaaDoor
open Go.Dl
open Go.Dl renaming dw_seq → kA, dw_block → kB, dw_reg → kC, dw_skip → kD, dw_exit → kE, dw_ret → kF, dw_cond → kG, guardC_f → kH, guardC_t → kI, dw_drw → kJ, dw_weaken → kK, sub_kn → kL, sub_ml → kM
open Go.Dl.CallC renaming mk → kN, light → kO
open Go.Dl.LeL renaming of_eq → kP
attribute [local irreducible] DW DCalls ECalls wk IW

def nl (l : List Nat) : List Int := l.map fun p : Nat => (p : Int)
theorem nl_snoc (l : List Nat) (p : Nat) : ints (nl (l ++ [p])) = ints (nl l) ++ [[li (p : Int)]] := by simp [nl]
def ptsR (s : ByteArray) : List Int := nl ((ptsL s.data.toList).getD [])
def okS (s : ByteArray) : Bool := Go.Lib.validD s.data.toList

set_option maxRecDepth 10000 in

set_option maxHeartbeats 4000000 in
theorem rPoints_D (s : ByteArray) (hs : s.size ≤ 1048576) : DCalls Tryd.prog 66 [dv (ls s)] (.tup [dv (.sl 1 (ints (ptsR s))), dv (lb (okS s))]) := by
  have hv := pts_valid s.data.toList
  refine dcalls (N := 28) (rs := [.tmp 2, .tmp 3]) (by kernel_rfl) Tryd.func66 rfl rfl rfl (by simp) ?_
  (repeat' (first | refine kA ?_ | refine kB ?_ | ((first | (refine kC (N := 28) rfl (by kernel_rfl) ?_) | refine kD ?_ | refine kE ?_); simp (decide := true) only [go_sem, reduceIte, reduceCtorEq, jA, jB, jC, jD, jE, jF]) | (apply kG; (simp (decide := true) only [go_sem, reduceIte, reduceCtorEq, jA, jB, jC, jD, jE, jF]; rfl); all_goals (intro hcnd; first | (exact absurd hcnd (by decide)) | skip))))
  refine dw_own 4 4 1 (by simp (decide := true) only [go_sem, reduceIte, reduceCtorEq, jA, jB, jC, jD, jE, jF]) ?_
  refine dw_loop_fam (fun y : Nat × List Nat => kn 28 [(0, dv (ls s)), (4, .one (.own 4 1 (ints (nl y.2)))), (5, dv (li y.1))] noMem)
    (fun y => y.1 ≤ s.size ∧ y.2.length ≤ y.1 ∧ ptsL s.data.toList = (ptsL (s.data.toList.drop y.1)).map fun l => y.2 ++ l) (fun y => s.size - y.1) (0, []) (kL rfl (by simp (decide := true) only [go_sem, reduceIte, reduceCtorEq, jA, jB, jC, jD, jE, jF, nl, List.map_nil]) (by simp [noMem])) ⟨by omega, by simp, by simp⟩ ?_
  rintro ⟨a, o⟩ ⟨h1, h2, h3⟩
  simp only at h1 h2 h3 ⊢
  by_cases ha : a < s.size
  · have t1 : decide ((a : Int) < (s.size : Int)) = true := by simp; omega
    have hF := first_D s a ha hs
    have hne : s.data.toList.drop a ≠ [] := by simp; omega
    cases hf : fstL (s.data.toList.drop a) with
    | none =>
      have e : firstR s a = (-1, 0) := by unfold firstR; rw [hf]
      rw [e] at hF
      rw [ptsL_bad hne hf] at h3
      have hok : okS s = false := by unfold okS; rw [← hv, h3]; rfl
      have hpt : ptsR s = [] := by unfold ptsR; rw [h3]; rfl
      (repeat' (first | refine kA ?_ | refine kB ?_ | ((first | (refine kC (N := 28) rfl (by kernel_rfl) ?_) | refine kD ?_ | refine kE ?_ | (refine kN (hF) (kP rfl) ?_) | (refine kO (hF) (kP rfl) ?_)); simp (decide := true) only [go_sem, reduceIte, reduceCtorEq, jA, jB, jC, jD, jE, jF, t1]) | (apply kG; (simp (decide := true) only [go_sem, reduceIte, reduceCtorEq, jA, jB, jC, jD, jE, jF, t1]; rfl); all_goals (intro hcnd; first | (exact absurd hcnd (by decide)) | skip))))
      refine dw_slot 2 (dv (.sl 1 [])) (by simp (decide := true) only [go_sem, reduceIte, reduceCtorEq, jA, jB, jC, jD, jE, jF]) ?_
      refine kF ?_; simp (decide := true) only [go_sem, reduceIte, reduceCtorEq, jA, jB, jC, jD, jE, jF]
      rw [hpt, hok]; rfl
    | some d =>
      obtain ⟨p, k⟩ := d
      have hw := fstL_width hf
      have e : firstR s a = ((p : Int), (k : Int)) := by unfold firstR; rw [hf]
      rw [e] at hF
      rw [ptsL_step hf] at h3
      have t2 : ((k : Int) == 0) = false := by simp; omega
      have hk2 : k ≤ s.size - a := by have := hw.2.1; simp at this; omega
      have u1 : IntKind.i64.wrap ((a : Int) + (k : Int)) = ((a + k : Nat) : Int) := by rw [wrap_i64 (by omega) (by omega)]; rfl
      (repeat' (first | refine kA ?_ | refine kB ?_ | ((first | (refine kC (N := 28) rfl (by kernel_rfl) ?_) | refine kD ?_ | refine kE ?_ | (refine kN (hF) (kP rfl) ?_) | (refine kO (hF) (kP rfl) ?_)); simp (decide := true) only [go_sem, reduceIte, reduceCtorEq, jA, jB, jC, jD, jE, jF, t1, t2, u1]) | (apply kG; (simp (decide := true) only [go_sem, reduceIte, reduceCtorEq, jA, jB, jC, jD, jE, jF, t1, t2, u1]; rfl); all_goals (intro hcnd; first | (exact absurd hcnd (by decide)) | skip))))
      have hl : ((nl o).length + 1) * 8 ≤ 140737488355328 := by simp [nl]; omega
      refine ⟨hl, ?_⟩
      (repeat' (first | refine kA ?_ | refine kB ?_ | ((first | (refine kC (N := 28) rfl (by kernel_rfl) ?_) | refine kD ?_ | refine kE ?_); simp (decide := true) only [go_sem, reduceIte, reduceCtorEq, jA, jB, jC, jD, jE, jF, u1]) | (apply kG; (simp (decide := true) only [go_sem, reduceIte, reduceCtorEq, jA, jB, jC, jD, jE, jF, u1]; rfl); all_goals (intro hcnd; first | (exact absurd hcnd (by decide)) | skip))))
      refine ⟨(a + k, o ++ [p]), ⟨by simp only; omega, by simp; omega, ?_⟩, by simp only; omega, kL rfl (by simp (decide := true) only [go_sem, reduceIte, reduceCtorEq, jA, jB, jC, jD, jE, jF, nl_snoc]) (by simp [noMem])⟩
      simp only
      rw [h3, List.drop_drop]
      cases ptsL (s.data.toList.drop (a + k)) <;> simp
  · have t1 : decide ((a : Int) < (s.size : Int)) = false := by simp; omega
    (repeat' (first | refine kA ?_ | refine kB ?_ | ((first | (refine kC (N := 28) rfl (by kernel_rfl) ?_) | refine kD ?_ | refine kE ?_); simp (decide := true) only [go_sem, reduceIte, reduceCtorEq, jA, jB, jC, jD, jE, jF, t1]) | (apply kG; (simp (decide := true) only [go_sem, reduceIte, reduceCtorEq, jA, jB, jC, jD, jE, jF, t1]; rfl); all_goals (intro hcnd; first | (exact absurd hcnd (by decide)) | skip))))
    refine dw_slot 2 (dv (.sl 1 (ints (nl o)))) (by simp (decide := true) only [go_sem, reduceIte, reduceCtorEq, jA, jB, jC, jD, jE, jF]) ?_
    refine kF ?_; simp (decide := true) only [go_sem, reduceIte, reduceCtorEq, jA, jB, jC, jD, jE, jF]
    have hn : s.data.toList.drop a = [] := List.drop_eq_nil_of_le (by simp; omega)
    rw [hn, ptsL_nil] at h3
    simp at h3
    have hpt : ptsR s = nl o := by unfold ptsR; rw [h3]; rfl
    have hok : okS s = true := by unfold okS; rw [← hv, h3]; rfl
    rw [hpt, hok]
end Go.Proofs.YtiaamlaibfpdgaaDoor

/- Strings: the library's characters. -/
namespace Go.Proofs.YtiaamlaibfpdgaaDoor
open Go.Dl
open Go.Dl renaming dw_seq → kA, dw_block → kB, dw_reg → kC, dw_skip → kD, dw_exit → kE, dw_ret → kF, dw_cond → kG, guardC_f → kH, guardC_t → kI, dw_drw → kJ, dw_weaken → kK, sub_kn → kL, sub_ml → kM
open Go.Dl.CallC renaming mk → kN, light → kO
open Go.Dl.LeL renaming of_eq → kP
attribute [local irreducible] DW DCalls ECalls wk IW

theorem tabs_of {w : World} {K : KSet} (h : KOk w K) : Go.Lib.Utf8Tabs (Tryd.laysV_ren.g 3) (Tryd.laysV_ren.g 4) w := by
  have h0 := h.g (Tryd.laysV_ren.g 3) _ rfl
  have h1 := h.g (Tryd.laysV_ren.g 4) _ rfl
  refine ⟨fun c hc => ?_, fun i hi => ?_⟩
  · refine (h0 c _ ?_).2.2
    simp [Go.Lib.firstTab, hc]
  · have e : ∀ j, j < 2 → ((List.range 16).flatMap fun i => [Value.int .u8 (Go.Lib.accLo i), Value.int .u8 (Go.Lib.accHi i)])[2 * i + j]? = some (if j = 0 then Value.int .u8 (Go.Lib.accLo i) else Value.int .u8 (Go.Lib.accHi i)) := by
      have hall : ∀ i : Fin 16, ∀ j : Fin 2, ((List.range 16).flatMap fun i => [Value.int .u8 (Go.Lib.accLo i), Value.int .u8 (Go.Lib.accHi i)])[2 * i.val + j.val]? = some (if j.val = 0 then Value.int .u8 (Go.Lib.accLo i.val) else Value.int .u8 (Go.Lib.accHi i.val)) := by
        intro i j
        match i, j with
        | ⟨i, hi⟩, ⟨j, hj⟩ =>
          have : i = 0 ∨ i = 1 ∨ i = 2 ∨ i = 3 ∨ i = 4 ∨ i = 5 ∨ i = 6 ∨ i = 7 ∨ i = 8 ∨ i = 9 ∨ i = 10 ∨ i = 11 ∨ i = 12 ∨ i = 13 ∨ i = 14 ∨ i = 15 := by omega
          have h2 : j = 0 ∨ j = 1 := by omega
          rcases this with rfl | rfl | rfl | rfl | rfl | rfl | rfl | rfl | rfl | rfl | rfl | rfl | rfl | rfl | rfl | rfl <;> rcases h2 with rfl | rfl <;> rfl
      exact fun j hj => hall ⟨i, hi⟩ ⟨j, hj⟩
    exact ⟨(h1 (2 * i) _ (e 0 (by omega))).2.2, (h1 (2 * i + 1) _ (e 1 (by omega))).2.2⟩

theorem valid_D (s : ByteArray) (hs : s.size ≤ 9223372036854775807) : DCalls Tryd.prog 68 [dv (ls s)] (dv (lb (okS s))) := by
  refine dcalls_below (by kernel_rfl) rfl fun w K vs hk hl hv => ?_
  obtain ⟨v, rfl⟩ : ∃ v, vs = #[v] := by
    match vs, hl with
    | ⟨[v]⟩, _ => exact ⟨v, rfl⟩
  have h0 := (hv 0 _ v rfl rfl).lit
  subst h0
  exact Go.Proofs.Any.utf8_ValidString Tryd.laysV s w hs (tabs_of hk)
end Go.Proofs.YtiaamlaibfpdgaaDoor

/- Strings: a range over a string, as an iterator; the library's list of characters. -/
namespace Go.Proofs.YtiaamlaibfpdgaaDoor
open Go.Dl
open Go.Dl renaming dw_seq → kA, dw_block → kB, dw_reg → kC, dw_skip → kD, dw_exit → kE, dw_ret → kF, dw_cond → kG, guardC_f → kH, guardC_t → kI, dw_drw → kJ, dw_weaken → kK, sub_kn → kL, sub_ml → kM
open Go.Dl.CallC renaming mk → kN, light → kO
open Go.Dl.LeL renaming of_eq → kP
attribute [local irreducible] DW DCalls ECalls wk IW

def posF (s : ByteArray) (p : Nat) : Nat → Nat
  | 0 => p
  | k + 1 => posF s p k + (Utf8.decode s (posF s p k)).2
theorem posF_shift (s : ByteArray) (p : Nat) : ∀ k, posF s (p + (Utf8.decode s p).2) k = posF s p (k + 1)
  | 0 => rfl
  | k + 1 => by
    have h := posF_shift s p k
    show posF s (p + (Utf8.decode s p).2) k + _ = _
    rw [h]; rfl
def runeAt (s : ByteArray) (k : Nat) : List D := [dv (li (posF s 0 k)), dv (li (Utf8.decode s (posF s 0 k)).1)]
def cntF (s : ByteArray) : Nat → Nat → Nat
  | 0, _ => 0
  | n + 1, p => if p < s.size then cntF s n (p + (Utf8.decode s p).2) + 1 else 0
theorem cntF_le (s : ByteArray) : ∀ n p, cntF s n p ≤ n
  | 0, _ => Nat.le_refl _
  | n + 1, p => by unfold cntF; split; · have := cntF_le s n (p + (Utf8.decode s p).2); omega
                   · omega
theorem cntF_at (s : ByteArray) : ∀ n p, (∀ k, k < cntF s n p → posF s p k < s.size) ∧ (s.size ≤ p + n → s.size ≤ posF s p (cntF s n p))
  | 0, p => ⟨fun k h => by simp [cntF] at h, fun h => by simpa [cntF, posF] using h⟩
  | n + 1, p => by
    have hw := Go.Lib.width_pos s p
    obtain ⟨i1, i2⟩ := cntF_at s n (p + (Utf8.decode s p).2)
    unfold cntF
    split
    · rename_i hp
      refine ⟨fun k hk => ?_, fun h => ?_⟩
      · cases k with
        | zero => exact hp
        | succ k => rw [← posF_shift]; exact i1 k (by omega)
      · rw [← posF_shift]; exact i2 (by omega)
    · rename_i hp
      exact ⟨fun k h => by omega, fun _ => by simp [posF]; omega⟩
def cnt (s : ByteArray) : Nat := cntF s s.size 0
def runesL (s : ByteArray) : List (List D) := (List.range (cnt s)).map (runeAt s)
theorem cnt_lt {s : ByteArray} {k : Nat} (h : k < cnt s) : posF s 0 k < s.size := (cntF_at s s.size 0).1 k h
theorem cnt_end (s : ByteArray) : s.size ≤ posF s 0 (cnt s) := (cntF_at s s.size 0).2 (by omega)
theorem cnt_le (s : ByteArray) : cnt s ≤ s.size := cntF_le s _ _
theorem runesL_len (s : ByteArray) : (runesL s).length = cnt s := by simp [runesL]
theorem runesL_at {s : ByteArray} {k : Nat} (h : k < cnt s) : (runesL s)[k]? = some (runeAt s k) := by simp [runesL, h]

set_option maxRecDepth 10000 in
set_option maxHeartbeats 2000000 in
theorem scalars1_S (s : ByteArray) (hs : s.size ≤ 1000000) : SeqD Tryd.prog 92 [dv (.pt [ls s])] (runesL s) := by
  refine seqD_intro (by kernel_rfl) Tryd.func92 rfl rfl (by simp) (by have := NB_big; simp; omega) ?_
  intro n l J hJ hY
  refine iw_seq_range (pre := [_]) (str := s) hJ hY (posF s 0) rfl rfl rfl rfl (by kernel_rfl) (by kernel_rfl) ?_
  simp only [List.map_cons, List.map_nil, List.cons_append, List.nil_append]
  simp (decide := true) only [go_sem, reduceIte, reduceCtorEq, jA, jB, jC, jD, jE, jF]
  intro b n' J' hJ' hY' hJe hnb hbn
  subst hJe
  refine iw_block ?_
  refine iw_loop (fun k : Nat => kn 17 [(0, dv (.lit (.func (.yield l) #[] #[]))), (6, itD b)] noMem) (fun k => some (2 * k)) (fun k => k ≤ cnt s) (fun k => cnt s - k) 0 (fsub_kn rfl (by simp (decide := true) only [go_sem, reduceIte, reduceCtorEq, jA, jB, jC, jD, jE, jF])) rfl (by omega) ?_
  intro k hk
  refine iw_seq ?_
  refine iw_region_next hJ hnb hJ' 0 rfl (by kernel_rfl) ?_
  simp only [List.take_succ_cons, List.take_zero, List.drop_succ_cons, List.drop_zero, List.map_cons, List.map_nil]
  simp (decide := true) only [go_sem, reduceIte, reduceCtorEq, jA, jB, jC, jD, jE, jF]
  refine ⟨_, k, rfl, rfl, by simp (decide := true) only [go_sem, reduceIte, reduceCtorEq, jA, jB, jC, jD, jE, jF, itD], rfl, fun hlt => ⟨rfl, ?_⟩, fun hge => ?_⟩
  · have hkc : k < cnt s := by
      rcases Nat.lt_or_ge k (cnt s) with h | h
      · exact h
      · have : k = cnt s := by omega
        subst this; have := cnt_end s; omega
    simp (decide := true) only [go_sem, reduceIte, reduceCtorEq, jA, jB, jC, jD, jE, jF]
    refine iw_seq ?_
    refine iw_cond (by simp (decide := true) only [go_sem, reduceIte, reduceCtorEq, jA, jB, jC, jD, jE, jF]; rfl) (fun _ => iw_skip ?_) (fun h => by cases h)
    simp (decide := true) only [go_sem, reduceIte, reduceCtorEq, jA, jB, jC, jD, jE, jF]
    refine iw_block ?_
    refine iw_seq (iw_pureQ hJ' ?_)
    (repeat (first | refine kA ?_ | refine kB ?_ | ((first | (refine kC (N := 17) rfl (by kernel_rfl) ?_) | refine kD ?_ | refine kE ?_); simp (decide := true) only [go_sem, reduceIte, reduceCtorEq, jA, jB, jC, jD, jE, jF])))
    refine iw_seq ?_
    have hr : (dbl (runesL s))[2 * k + 1]? = some (runeAt s k) := by rw [dbl_odd]; exact runesL_at hkc
    have hrl : (Utf8.decode s (posF s 0 k)).1 ≤ 1114111 := Go.Lib.rune_le s _
    have hw : IntKind.i64.wrap (((Utf8.decode s (posF s 0 k)).1 : Nat) : Int) = (((Utf8.decode s (posF s 0 k)).1 : Nat) : Int) := wrap64n (by omega)
    refine iw_region hJ' hY' 4 rfl (by kernel_rfl) ?_
    simp only [List.take_succ_cons, List.take_zero, List.drop_succ_cons, List.drop_zero, List.map_cons, List.map_nil]
    simp (decide := true) only [go_sem, reduceIte, reduceCtorEq, jA, jB, jC, jD, jE, jF, hw]
    refine ⟨true, rfl, fun h => (by cases h), fun _ => ⟨_, _, _, 2 * k + 1, _, rfl, by simp (decide := true) only [go_sem, reduceIte, reduceCtorEq, jA, jB, jC, jD, jE, jF], rfl, hr, DLeL.of_eq (by simp (decide := true) only [go_sem, reduceIte, reduceCtorEq, jA, jB, jC, jD, jE, jF, runeAt]), fun bb => ?_⟩⟩
    simp (decide := true) only [go_sem, reduceIte, reduceCtorEq, jA, jB, jC, jD, jE, jF]
    cases bb
    · refine iw_cond (by simp (decide := true) only [go_sem, reduceIte, reduceCtorEq, jA, jB, jC, jD, jE, jF]; rfl) (fun _ => iw_ret ?_) (fun h => by cases h)
      simp (decide := true) only [go_sem, reduceIte, reduceCtorEq, jA, jB, jC, jD, jE, jF]
      exact .inr rfl
    · refine iw_cond (by simp (decide := true) only [go_sem, reduceIte, reduceCtorEq, jA, jB, jC, jD, jE, jF]; rfl) (fun h => by cases h) (fun _ => iw_skip ?_)
      simp (decide := true) only [go_sem, reduceIte, reduceCtorEq, jA, jB, jC, jD, jE, jF]
      exact ⟨k + 1, by omega, by omega, fsub_kn rfl (by simp (decide := true) only [go_sem, reduceIte, reduceCtorEq, jA, jB, jC, jD, jE, jF, itD]), rfl⟩
  · have hkc : k = cnt s := by
      rcases Nat.lt_or_ge k (cnt s) with h | h
      · exact absurd (cnt_lt h) hge
      · omega
    simp (decide := true) only [go_sem, reduceIte, reduceCtorEq, jA, jB, jC, jD, jE, jF]
    refine iw_seq ?_
    refine iw_cond (by simp (decide := true) only [go_sem, reduceIte, reduceCtorEq, jA, jB, jC, jD, jE, jF]; rfl) (fun h => by cases h) (fun _ => iw_exit ?_)
    simp (decide := true) only [go_sem, reduceIte, reduceCtorEq, jA, jB, jC, jD, jE, jF]
    exact .inl (by rw [half_even, hkc, runesL_len])

set_option maxRecDepth 10000 in

theorem scalars_D (s : ByteArray) : DCalls Tryd.prog 69 [dv (ls s)] (dv (.fn 92 [.pt [ls s]])) := by
  refine dcalls (N := 4) (rs := [.tmp 2]) (by kernel_rfl) Tryd.func69 rfl rfl rfl (by simp) ?_
  (repeat (first | refine kA ?_ | refine kB ?_ | ((first | (refine kC (N := 4) rfl (by kernel_rfl) ?_) | refine kD ?_ | refine kE ?_); simp (decide := true) only [go_sem, reduceIte, reduceCtorEq, jA, jB, jC, jD, jE, jF])))
  refine dw_frz1 1 [ls s] (by simp) (by simp (decide := true) only [go_sem, reduceIte, reduceCtorEq, jA, jB, jC, jD, jE, jF]) ?_
  refine kF ?_; simp (decide := true) only [go_sem, reduceIte, reduceCtorEq, jA, jB, jC, jD, jE, jF]

def iRows (xs : List Int) : Dl.Rows := xs.map fun x => [T.c (li x)]
theorem iRows_tr (r : Ren) (xs : List Int) : Dl.Rows.tr r (iRows xs) = iRows xs := by
  simp [iRows, Dl.Rows.tr, T.trAll, T.tr]
theorem iRows_sz (xs : List Int) : RowsSz 1 (iRows xs) := fun r hr => by
  simp only [iRows, List.mem_map] at hr; obtain ⟨x, _, rfl⟩ := hr; rfl
theorem iRows_len (xs : List Int) : (iRows xs).length = xs.length := by simp [iRows]
theorem iRows_app (xs ys : List Int) : iRows (xs ++ ys) = iRows xs ++ iRows ys := by simp [iRows]
attribute [go_sem] iRows_tr

def runeI (s : ByteArray) (k : Nat) : Int := (Utf8.decode s (posF s 0 k)).1
def runesI (s : ByteArray) (k : Nat) : List Int := (List.range k).map (runeI s)
theorem runesI_snoc (s : ByteArray) (k : Nat) : runesI s (k + 1) = runesI s k ++ [runeI s k] := by simp [runesI, List.range_succ]
theorem runesI_len (s : ByteArray) (k : Nat) : (runesI s k).length = k := by simp [runesI]

set_option maxRecDepth 10000 in
set_option maxHeartbeats 4000000 in
theorem points_D (s : ByteArray) (hs : s.size ≤ 1000000) : DCalls Tryd.prog 37 [dv (ls s)] (.tup [.any, dv (lb (okS s))]) := by
  have hmax : maxLen = 9223372036854775807 := rfl
  have hV := valid_D s (by omega)
  refine dcalls (N := 19) (rs := [.tmp 2, .tmp 3]) (by kernel_rfl) Tryd.func37 rfl rfl rfl (by simp) ?_
  cases hok : okS s
  · rw [hok] at hV
    (repeat' (first | refine kA ?_ | refine kB ?_ | ((first | (refine kC (N := 19) rfl (by kernel_rfl) ?_) | refine kD ?_ | refine kE ?_ | (refine kN (hV) (kP rfl) ?_) | (refine kO (hV) (kP rfl) ?_)); simp (decide := true) only [go_sem, reduceIte, reduceCtorEq, jA, jB, jC, jD, jE, jF]) | (apply kG; (simp (decide := true) only [go_sem, reduceIte, reduceCtorEq, jA, jB, jC, jD, jE, jF]; rfl); all_goals (intro hcnd; first | (exact absurd hcnd (by decide)) | skip))))
    refine dw_slot 2 .any (DLe.any_ _) ?_
    refine kF ?_; simp (decide := true) only [go_sem, reduceIte, reduceCtorEq, jA, jB, jC, jD, jE, jF]
  · rw [hok] at hV
    (repeat' (first | refine kA ?_ | refine kB ?_ | ((first | (refine kC (N := 19) rfl (by kernel_rfl) ?_) | refine kD ?_ | refine kE ?_ | (refine kN (hV) (kP rfl) ?_) | (refine kO (hV) (kP rfl) ?_) | (refine kN (scalars_D s) (kP rfl) ?_) | (refine kO (scalars_D s) (kP rfl) ?_)); simp (decide := true) only [go_sem, reduceIte, reduceCtorEq, jA, jB, jC, jD, jE, jF]) | (apply kG; (simp (decide := true) only [go_sem, reduceIte, reduceCtorEq, jA, jB, jC, jD, jE, jF]; rfl); all_goals (intro hcnd; first | (exact absurd hcnd (by decide)) | skip))))
    have hl := cnt_le s
    refine kK (sub_zeroAt (i := 0) (j := 0) 4 1000 1 1 (rows := [[.ex 1 []]]) (r := [.ex 1 []]) (by simp (decide := true) only [go_sem, reduceIte, reduceCtorEq, jA, jB, jC, jD, jE, jF]) (by decide) rfl rfl) ?_
    refine dw_rfS 19 oneMid [4] (fun k (j : Nat) => kn 19 [(4, .one (.bx 4 1 0 0))] (ml [(4, [[.ba 1000 1 0 k (k + j)]]), (1000, iRows (runesI s k) ++ anyRows j 1)])) (fun k j => True) 0 trivial rfl rfl (by decide) (by simp (decide := true) only [go_sem, reduceIte, reduceCtorEq, jA, jB, jC, jD, jE, jF]; exact ⟨rfl, rfl⟩) (scalars1_S s hs)
      (kM rfl (by simp (decide := true) only [go_sem, reduceIte, reduceCtorEq, jA, jB, jC, jD, jE, jF]) (by simp (decide := true) only [go_sem, reduceIte, reduceCtorEq, jA, jB, jC, jD, jE, jF] <;> rfl)) (fun _ _ => rfl) (by intro ds h; obtain ⟨c, _, rfl⟩ := List.mem_map.1 h; rfl) ?_ ?_
    · intro k ds j hk _
      have hkc : k < cnt s := by have := (List.getElem?_eq_some_iff.1 hk).1; rwa [runesL_len] at this
      rw [runesL_at hkc] at hk
      injection hk with hk; subst hk
      (repeat (first | refine kA ?_ | refine kB ?_ | ((first | (refine kC (N := 19) rfl (by kernel_rfl) ?_) | refine kD ?_ | refine kE ?_); simp (decide := true) only [go_sem, reduceIte, reduceCtorEq, jA, jB, jC, jD, jE, jF, runeAt])))
      refine StepC.mk (Step.appendList (n := 1000) (rows := iRows (runesI s k)) (ys := iRows [runeI s k]) (j := j) (sz := 1) (by_ := 8) rfl rfl (by simp (decide := true) only [go_sem, reduceIte, reduceCtorEq, jA, jB, jC, jD, jE, jF]) (by simp (decide := true) only [go_sem, reduceIte, reduceCtorEq, jA, jB, jC, jD, jE, jF, iRows_len, runesI_len]) (by simp (decide := true) only [go_sem, reduceIte, reduceCtorEq, jA, jB, jC, jD, jE, jF]) (iRows_sz _) (.ex [[li (runeI s k)]]) (by rw [iRows_len, iRows_len, runesI_len]; simp; omega) ?_)
      intro j'
      simp (decide := true) only [go_sem, reduceIte, reduceCtorEq, jA, jB, jC, jD, jE, jF, iRows_len, runesI_len]
      (repeat (first | refine kA ?_ | refine kB ?_ | ((first | (refine kC (N := 19) rfl (by kernel_rfl) ?_) | refine kD ?_ | refine kE ?_); simp (decide := true) only [go_sem, reduceIte, reduceCtorEq, jA, jB, jC, jD, jE, jF])))
      refine ⟨_, sub_mv 17 1000 (by decide), ?_⟩
      refine ⟨j', kM rfl (by simp (decide := true) only [go_sem, reduceIte, reduceCtorEq, jA, jB, jC, jD, jE, jF]) (by simp (decide := true) only [go_sem, reduceIte, reduceCtorEq, jA, jB, jC, jD, jE, jF]; rw [runesI_snoc, iRows_app, List.append_assoc])⟩
    · intro j _
      rw [runesL_len]
      (repeat (first | refine kA ?_ | refine kB ?_ | ((first | (refine kC (N := 19) rfl (by kernel_rfl) ?_) | refine kD ?_ | refine kE ?_); simp (decide := true) only [go_sem, reduceIte, reduceCtorEq, jA, jB, jC, jD, jE, jF])))
      refine dw_slot 2 .any (DLe.any_ _) ?_
      refine kF ?_; simp (decide := true) only [go_sem, reduceIte, reduceCtorEq, jA, jB, jC, jD, jE, jF]
end Go.Proofs.YtiaamlaibfpdgaaDoor

/- Strings: labels, glosses, texts. -/
namespace Go.Proofs.YtiaamlaibfpdgaaDoor
open Go.Dl
open Go.Dl renaming dw_seq → kA, dw_block → kB, dw_reg → kC, dw_skip → kD, dw_exit → kE, dw_ret → kF, dw_cond → kG, guardC_f → kH, guardC_t → kI, dw_drw → kJ, dw_weaken → kK, sub_kn → kL, sub_ml → kM
open Go.Dl.CallC renaming mk → kN, light → kO
open Go.Dl.LeL renaming of_eq → kP
attribute [local irreducible] DW DCalls ECalls wk IW

def idxF {α : Type} (q : α → Bool) (l : List α) : Int := if l.any q then ((l.findIdx q : Nat) : Int) else -1

theorem idxF_at {α : Type} {q : α → Bool} {l : List α} {k : Nat} {x : α} (hx : l[k]? = some x) (hi : ∀ y ∈ l.take k, q y = false) (h : q x = true) : idxF q l = (k : Int) := by
  have hk := (List.getElem?_eq_some_iff.1 hx).1
  have hany : l.any q = true := List.any_eq_true.2 ⟨x, List.mem_of_getElem? hx, h⟩
  have hf : l.findIdx q = k := by
    rw [List.findIdx_eq hk]
    refine ⟨by obtain ⟨h1, h2⟩ := List.getElem?_eq_some_iff.1 hx; rw [h2]; exact h, fun j hj => ?_⟩
    exact hi _ (List.mem_iff_getElem?.2 ⟨j, by rw [List.getElem?_take_of_lt hj]; exact List.getElem?_eq_getElem (by omega)⟩)
  rw [idxF, if_pos hany, hf]
theorem idxF_no {α : Type} {q : α → Bool} {l : List α} (hi : ∀ y ∈ l, q y = false) : idxF q l = -1 := by
  rw [idxF, if_neg]; simpa using hi

/-! ### Kinds -/

theorem idxF_any {α : Type} (q : α → Bool) (l : List α) : decide ((0 : Int) ≤ idxF q l) = l.any q := by
  unfold idxF
  split
  · rename_i h; rw [h]; simp
  · rename_i h; simp at h ⊢; exact h

def ctlB (s : ByteArray) : Bool := s.data.toList.any fun b => ctl b.toNat
theorem ctl_tests (n : Nat) : (decide (((n : Nat) : Int) < 32) || (((n : Nat) : Int) == 127)) = ctl n := by
  rw [Bool.eq_iff_iff]; simp [ctl]; omega

set_option maxRecDepth 10000 in
theorem ctl1_D (n : Nat) : DCalls Tryd.prog 36 [dv (.lit (.int .u8 (n : Int)))] (dv (lb (ctl n))) := by
  rw [← ctl_tests]
  refine dcalls (N := 9) (rs := [.tmp 2]) (by kernel_rfl) Tryd.func36 rfl rfl rfl (by simp) ?_
  rcases Bool.eq_false_or_eq_true (decide (((n : Nat) : Int) < 32)) with t1 | t1
  · (repeat' (first | refine kA ?_ | refine kB ?_ | ((first | (refine kC (N := 9) rfl (by kernel_rfl) ?_) | refine kD ?_ | refine kE ?_ | refine kF ?_); simp (decide := true) only [go_sem, reduceIte, reduceCtorEq, jA, jB, jC, jD, jE, jF, t1]) | (apply kG; (simp (decide := true) only [go_sem, reduceIte, reduceCtorEq, jA, jB, jC, jD, jE, jF, t1]; rfl); all_goals (intro hcnd; first | (exact absurd hcnd (by decide)) | skip)) | ((first | refine kH ?_ ?_ | refine kI ?_ ?_) <;> (intro hcnd; simp (decide := true) only [go_sem, reduceIte, reduceCtorEq, jA, jB, jC, jD, jE, jF, hcnd, t1]))))
  · (repeat' (first | refine kA ?_ | refine kB ?_ | ((first | (refine kC (N := 9) rfl (by kernel_rfl) ?_) | refine kD ?_ | refine kE ?_ | refine kF ?_); simp (decide := true) only [go_sem, reduceIte, reduceCtorEq, jA, jB, jC, jD, jE, jF, t1]) | (apply kG; (simp (decide := true) only [go_sem, reduceIte, reduceCtorEq, jA, jB, jC, jD, jE, jF, t1]; rfl); all_goals (intro hcnd; first | (exact absurd hcnd (by decide)) | skip)) | ((first | refine kH ?_ ?_ | refine kI ?_ ?_) <;> (intro hcnd; simp (decide := true) only [go_sem, reduceIte, reduceCtorEq, jA, jB, jC, jD, jE, jF, hcnd, t1]))))

set_option maxRecDepth 10000 in
set_option maxHeartbeats 2000000 in
theorem idxB_D (s : ByteArray) (hs : s.size ≤ 1000000) : DCalls Tryd.prog 67 [dv (.sl 1 (bytesC s)), dv (.fn 36 [])] (dv (li (idxF (fun b : UInt8 => ctl b.toNat) s.data.toList))) := by
  have hmax : maxLen = 9223372036854775807 := rfl
  have hl : (bytesC s).length = s.data.toList.length := by simp [bytesC]
  have hl2 : s.data.toList.length = s.size := by simp
  refine dcalls (N := 19) (rs := [.tmp 4]) (by kernel_rfl) Tryd.func67 rfl rfl rfl (by simp) ?_
  (repeat (first | refine kA ?_ | refine kB ?_ | ((first | (refine kC (N := 19) rfl (by kernel_rfl) ?_) | refine kD ?_ | refine kE ?_); simp (decide := true) only [go_sem, reduceIte, reduceCtorEq, jA, jB, jC, jD, jE, jF, hl])))
  refine dw_rngI s.data.toList (fun k => kn 19 [(0, dv (.sl 1 (bytesC s))), (1, dv (.fn 36 [])), (7, dv (li s.data.toList.length)), (8, dv (li k))] noMem) (fun k => ∀ e ∈ s.data.toList.take k, ctl e.toNat = false) (by omega) (kL rfl (by simp (decide := true) only [go_sem, reduceIte, reduceCtorEq, jA, jB, jC, jD, jE, jF]) (by simp [noMem])) (by simp) ?_ ?_
  · intro k e he hk hm htk hlt hw hi
    have hx := bytesC_at he
    (repeat' (first | refine kA ?_ | refine kB ?_ | ((first | (refine kC (N := 19) rfl (by kernel_rfl) ?_) | refine kD ?_ | refine kE ?_ | (refine kN (ctl1_D e.toNat) (kP rfl) ?_) | (refine kO (ctl1_D e.toNat) (kP rfl) ?_) | refine kF ?_); simp (decide := true) only [go_sem, reduceIte, reduceCtorEq, jA, jB, jC, jD, jE, jF, hlt, hw, hx]) | (apply kG; (simp (decide := true) only [go_sem, reduceIte, reduceCtorEq, jA, jB, jC, jD, jE, jF, hlt, hw, hx]; rfl); all_goals (intro hcnd; first | (exact absurd hcnd (by decide)) | skip))))
    · rw [idxF_at he hi hcnd]
    · exact ⟨forall_snoc htk hi hcnd, kL rfl (by simp (decide := true) only [go_sem, reduceIte, reduceCtorEq, jA, jB, jC, jD, jE, jF]) (by simp [noMem])⟩
  · intro hlt hi
    rw [List.take_length] at hi
    (repeat' (first | refine kA ?_ | refine kB ?_ | ((first | (refine kC (N := 19) rfl (by kernel_rfl) ?_) | refine kD ?_ | refine kE ?_ | refine kF ?_); simp (decide := true) only [go_sem, reduceIte, reduceCtorEq, jA, jB, jC, jD, jE, jF, hlt]) | (apply kG; (simp (decide := true) only [go_sem, reduceIte, reduceCtorEq, jA, jB, jC, jD, jE, jF, hlt]; rfl); all_goals (intro hcnd; first | (exact absurd hcnd (by decide)) | skip))))
    rw [idxF_no hi]

set_option maxRecDepth 10000 in
theorem conB_D (s : ByteArray) (hs : s.size ≤ 1000000) : DCalls Tryd.prog 35 [dv (.sl 1 (bytesC s)), dv (.fn 36 [])] (dv (lb (ctlB s))) := by
  refine dcalls (N := 9) (rs := [.tmp 4]) (by kernel_rfl) Tryd.func35 rfl rfl rfl (by simp) ?_
  (repeat' (first | refine kA ?_ | refine kB ?_ | ((first | (refine kC (N := 9) rfl (by kernel_rfl) ?_) | refine kD ?_ | refine kE ?_ | (refine kN (idxB_D s hs) (kP rfl) ?_) | (refine kO (idxB_D s hs) (kP rfl) ?_) | refine kF ?_); simp (decide := true) only [go_sem, reduceIte, reduceCtorEq, jA, jB, jC, jD, jE, jF, idxF_any]) | (apply kG; (simp (decide := true) only [go_sem, reduceIte, reduceCtorEq, jA, jB, jC, jD, jE, jF, idxF_any]; rfl); all_goals (intro hcnd; first | (exact absurd hcnd (by decide)) | skip))))
  rfl

def labelB (s : ByteArray) : Bool := !(s.size == 0) && (!decide ((32 : Int) < (s.size : Int)) && (!ctlB s && okS s))

set_option maxRecDepth 10000 in
set_option maxHeartbeats 2000000 in
theorem label_D (s : ByteArray) : DCalls Tryd.prog 15 [dv (ls s)] (dv (lb (labelB s))) := by
  have he : (s == ({ data := #[] } : ByteArray)) = (s.size == 0) := by
    rw [Bool.eq_iff_iff, bytes_eq]
    constructor
    · intro h; subst h; rfl
    · intro h
      have h0 : s.size = 0 := by simpa using h
      cases s with | mk d =>
      have : d = #[] := Array.eq_empty_of_size_eq_zero h0
      subst this; rfl
  refine dcalls (N := 23) (rs := [.tmp 2]) (by kernel_rfl) Tryd.func15 rfl rfl rfl (by simp) ?_
  cases h0 : (s.size == 0)
  rotate_left
  · rw [h0] at he
    (repeat' (first | refine kA ?_ | refine kB ?_ | ((first | (refine kC (N := 23) rfl (by kernel_rfl) ?_) | refine kD ?_ | refine kE ?_ | refine kF ?_); simp (decide := true) only [go_sem, reduceIte, reduceCtorEq, jA, jB, jC, jD, jE, jF, he]) | (apply kG; (simp (decide := true) only [go_sem, reduceIte, reduceCtorEq, jA, jB, jC, jD, jE, jF, he]; rfl); all_goals (intro hcnd; first | (exact absurd hcnd (by decide)) | skip)) | ((first | refine kH ?_ ?_ | refine kI ?_ ?_) <;> (intro hcnd; simp (decide := true) only [go_sem, reduceIte, reduceCtorEq, jA, jB, jC, jD, jE, jF, hcnd, he]))))
    simp [labelB, h0]
  rw [h0] at he
  cases h1 : decide ((32 : Int) < (s.size : Int))
  rotate_left
  · (repeat' (first | refine kA ?_ | refine kB ?_ | ((first | (refine kC (N := 23) rfl (by kernel_rfl) ?_) | refine kD ?_ | refine kE ?_ | refine kF ?_); simp (decide := true) only [go_sem, reduceIte, reduceCtorEq, jA, jB, jC, jD, jE, jF, he, h1]) | (apply kG; (simp (decide := true) only [go_sem, reduceIte, reduceCtorEq, jA, jB, jC, jD, jE, jF, he, h1]; rfl); all_goals (intro hcnd; first | (exact absurd hcnd (by decide)) | skip)) | ((first | refine kH ?_ ?_ | refine kI ?_ ?_) <;> (intro hcnd; simp (decide := true) only [go_sem, reduceIte, reduceCtorEq, jA, jB, jC, jD, jE, jF, hcnd, he, h1]))))
    simp only [labelB, h1]; simp
  have hs : s.size ≤ 32 := by simp at h1; omega
  have hm : (s.size ≤ maxLen) = True := eq_true (by have hmax : maxLen = 9223372036854775807 := rfl; omega)
  have hC := conB_D s (by omega)
  cases h2 : ctlB s
  · rw [h2] at hC
    (repeat' (first | refine kA ?_ | refine kB ?_ | ((first | (refine kC (N := 23) rfl (by kernel_rfl) ?_) | refine kD ?_ | refine kE ?_ | (refine kN (hC) (kP rfl) ?_) | (refine kO (hC) (kP rfl) ?_) | (refine kN (points_D s (by omega)) (kP rfl) ?_) | (refine kO (points_D s (by omega)) (kP rfl) ?_) | refine kF ?_); simp (decide := true) only [go_sem, reduceIte, reduceCtorEq, jA, jB, jC, jD, jE, jF, he, h1, hm]) | (apply kG; (simp (decide := true) only [go_sem, reduceIte, reduceCtorEq, jA, jB, jC, jD, jE, jF, he, h1, hm]; rfl); all_goals (intro hcnd; first | (exact absurd hcnd (by decide)) | skip)) | ((first | refine kH ?_ ?_ | refine kI ?_ ?_) <;> (intro hcnd; simp (decide := true) only [go_sem, reduceIte, reduceCtorEq, jA, jB, jC, jD, jE, jF, hcnd, he, h1, hm]))))
    simp [labelB, h0, h1, h2]
  · rw [h2] at hC
    (repeat' (first | refine kA ?_ | refine kB ?_ | ((first | (refine kC (N := 23) rfl (by kernel_rfl) ?_) | refine kD ?_ | refine kE ?_ | (refine kN (hC) (kP rfl) ?_) | (refine kO (hC) (kP rfl) ?_) | refine kF ?_); simp (decide := true) only [go_sem, reduceIte, reduceCtorEq, jA, jB, jC, jD, jE, jF, he, h1, hm]) | (apply kG; (simp (decide := true) only [go_sem, reduceIte, reduceCtorEq, jA, jB, jC, jD, jE, jF, he, h1, hm]; rfl); all_goals (intro hcnd; first | (exact absurd hcnd (by decide)) | skip)) | ((first | refine kH ?_ ?_ | refine kI ?_ ?_) <;> (intro hcnd; simp (decide := true) only [go_sem, reduceIte, reduceCtorEq, jA, jB, jC, jD, jE, jF, hcnd, he, h1, hm]))))
    simp [labelB, h0, h1, h2]
end Go.Proofs.YtiaamlaibfpdgaaDoor

/- Strings: the reference's labels and glosses; texts. -/
namespace Go.Proofs.YtiaamlaibfpdgaaDoor
open Go.Dl
open Go.Dl renaming dw_seq → kA, dw_block → kB, dw_reg → kC, dw_skip → kD, dw_exit → kE, dw_ret → kF, dw_cond → kG, guardC_f → kH, guardC_t → kI, dw_drw → kJ, dw_weaken → kK, sub_kn → kL, sub_ml → kM
open Go.Dl.CallC renaming mk → kN, light → kO
open Go.Dl.LeL renaming of_eq → kP
attribute [local irreducible] DW DCalls ECalls wk IW

theorem sz_list (s : ByteArray) : s.data.toList.length = s.size := by simp
theorem any_take_no {α : Type} {q : α → Bool} {l : List α} (h : ∀ x ∈ l.take l.length, q x = false) : l.any q = false := by
  rw [List.take_length] at h; rw [List.any_eq_false]; intro x hx; rw [h x hx]; decide
theorem any_at {α : Type} {q : α → Bool} {l : List α} {k : Nat} {x : α} (hx : l[k]? = some x) (h : q x = true) : l.any q = true := List.any_eq_true.2 ⟨x, List.mem_of_getElem? hx, h⟩

theorem pts_len : ∀ (n : Nat) (bs : List UInt8) (l : List Nat), bs.length ≤ n → ptsL bs = some l → l.length ≤ bs.length
  | n, [], l, _, h => by rw [ptsL_nil] at h; injection h with h; subst h; simp
  | 0, b :: r, l, hn, _ => by simp at hn
  | n + 1, b :: r, l, hn, h => by
    cases hf : fstL (b :: r) with
    | none => rw [ptsL_bad (by simp) hf] at h; cases h
    | some d =>
      obtain ⟨p, k⟩ := d
      have hw := fstL_width hf
      rw [ptsL_step hf] at h
      cases hr : ptsL ((b :: r).drop k) with
      | none => rw [hr] at h; cases h
      | some q =>
        rw [hr] at h; injection h with h; subst h
        have ih := pts_len n _ q (by simp at hn ⊢; omega) hr
        simp at ih hw ⊢; omega

set_option maxRecDepth 10000 in
set_option maxHeartbeats 4000000 in
theorem rLabel_D (s : ByteArray) (hs : s.size ≤ 1048576) : DCalls Tryd.prog 33 [dv (ls s)] (dv (lb (labelB s))) := by
  have hmax : maxLen = 9223372036854775807 := rfl
  have hsz := sz_list s
  have hP := rPoints_D s hs
  refine dcalls (N := 38) (rs := [.tmp 2]) (by kernel_rfl) Tryd.func33 rfl rfl rfl (by simp) ?_
  (repeat' (first | refine kA ?_ | refine kB ?_ | ((first | (refine kC (N := 38) rfl (by kernel_rfl) ?_) | refine kD ?_ | refine kE ?_); simp (decide := true) only [go_sem, reduceIte, reduceCtorEq, jA, jB, jC, jD, jE, jF]) | (apply kG; (simp (decide := true) only [go_sem, reduceIte, reduceCtorEq, jA, jB, jC, jD, jE, jF]; rfl); all_goals (intro hcnd; first | (exact absurd hcnd (by decide)) | skip)) | ((first | refine kH ?_ ?_ | refine kI ?_ ?_) <;> (intro hcnd; simp (decide := true) only [go_sem, reduceIte, reduceCtorEq, jA, jB, jC, jD, jE, jF, hcnd]))))
  refine dw_rngI s.data.toList (fun k => kn 38 [(0, dv (ls s)), (3, dv (li k))] noMem) (fun k => ∀ e ∈ s.data.toList.take k, ctl e.toNat = false) (by omega) (kL rfl (by simp (decide := true) only [go_sem, reduceIte, reduceCtorEq, jA, jB, jC, jD, jE, jF]) (by simp [noMem])) (by simp) ?_ ?_
  · intro k e he hk hm htk hlt hw hi
    rw [hsz] at hlt
    have ht := ctl_tests e.toNat
    rcases Bool.eq_false_or_eq_true (decide (((e.toNat : Nat) : Int) < 32)) with t1 | t1
    · have hc : ctl e.toNat = true := by rw [← ht, t1]; rfl
      have hB : ctlB s = true := any_at he hc
      (repeat' (first | refine kA ?_ | refine kB ?_ | ((first | (refine kC (N := 38) rfl (by kernel_rfl) ?_) | refine kD ?_ | refine kE ?_ | refine kF ?_); simp (decide := true) only [go_sem, reduceIte, reduceCtorEq, jA, jB, jC, jD, jE, jF, hlt, hw, he, t1, Int.toNat_natCast]) | (apply kG; (simp (decide := true) only [go_sem, reduceIte, reduceCtorEq, jA, jB, jC, jD, jE, jF, hlt, hw, he, t1, Int.toNat_natCast]; rfl); all_goals (intro hcnd; first | (exact absurd hcnd (by decide)) | skip)) | ((first | refine kH ?_ ?_ | refine kI ?_ ?_) <;> (intro hcnd; simp (decide := true) only [go_sem, reduceIte, reduceCtorEq, jA, jB, jC, jD, jE, jF, hcnd, hlt, hw, he, t1, Int.toNat_natCast]))))
      simp [labelB, hB]
    · rcases Bool.eq_false_or_eq_true (((e.toNat : Nat) : Int) == 127) with t2 | t2
      · have hc : ctl e.toNat = true := by rw [← ht, t1, t2]; rfl
        have hB : ctlB s = true := any_at he hc
        (repeat' (first | refine kA ?_ | refine kB ?_ | ((first | (refine kC (N := 38) rfl (by kernel_rfl) ?_) | refine kD ?_ | refine kE ?_ | refine kF ?_); simp (decide := true) only [go_sem, reduceIte, reduceCtorEq, jA, jB, jC, jD, jE, jF, hlt, hw, he, t1, t2, Int.toNat_natCast]) | (apply kG; (simp (decide := true) only [go_sem, reduceIte, reduceCtorEq, jA, jB, jC, jD, jE, jF, hlt, hw, he, t1, t2, Int.toNat_natCast]; rfl); all_goals (intro hcnd; first | (exact absurd hcnd (by decide)) | skip)) | ((first | refine kH ?_ ?_ | refine kI ?_ ?_) <;> (intro hcnd; simp (decide := true) only [go_sem, reduceIte, reduceCtorEq, jA, jB, jC, jD, jE, jF, hcnd, hlt, hw, he, t1, t2, Int.toNat_natCast]))))
        simp [labelB, hB]
      · have hc : ctl e.toNat = false := by rw [← ht, t1, t2]; rfl
        (repeat' (first | refine kA ?_ | refine kB ?_ | ((first | (refine kC (N := 38) rfl (by kernel_rfl) ?_) | refine kD ?_ | refine kE ?_ | refine kF ?_); simp (decide := true) only [go_sem, reduceIte, reduceCtorEq, jA, jB, jC, jD, jE, jF, hlt, hw, he, t1, t2, Int.toNat_natCast]) | (apply kG; (simp (decide := true) only [go_sem, reduceIte, reduceCtorEq, jA, jB, jC, jD, jE, jF, hlt, hw, he, t1, t2, Int.toNat_natCast]; rfl); all_goals (intro hcnd; first | (exact absurd hcnd (by decide)) | skip)) | ((first | refine kH ?_ ?_ | refine kI ?_ ?_) <;> (intro hcnd; simp (decide := true) only [go_sem, reduceIte, reduceCtorEq, jA, jB, jC, jD, jE, jF, hcnd, hlt, hw, he, t1, t2, Int.toNat_natCast]))))
        exact ⟨forall_snoc htk hi hc, kL rfl (by simp (decide := true) only [go_sem, reduceIte, reduceCtorEq, jA, jB, jC, jD, jE, jF]) (by simp [noMem])⟩
  · intro hlt hi
    rw [hsz] at hlt ⊢
    have hB : ctlB s = false := any_take_no hi
    cases hok : okS s
    · rw [hok] at hP
      (repeat' (first | refine kA ?_ | refine kB ?_ | ((first | (refine kC (N := 38) rfl (by kernel_rfl) ?_) | refine kD ?_ | refine kE ?_ | (refine kN (hP) (kP rfl) ?_) | (refine kO (hP) (kP rfl) ?_) | refine kF ?_); simp (decide := true) only [go_sem, reduceIte, reduceCtorEq, jA, jB, jC, jD, jE, jF, hlt]) | (apply kG; (simp (decide := true) only [go_sem, reduceIte, reduceCtorEq, jA, jB, jC, jD, jE, jF, hlt]; rfl); all_goals (intro hcnd; first | (exact absurd hcnd (by decide)) | skip)) | ((first | refine kH ?_ ?_ | refine kI ?_ ?_) <;> (intro hcnd; simp (decide := true) only [go_sem, reduceIte, reduceCtorEq, jA, jB, jC, jD, jE, jF, hcnd, hlt]))))
      simp [labelB, hok]
    · rw [hok] at hP
      rcases Bool.eq_false_or_eq_true (decide ((1 : Int) ≤ (s.size : Int))) with t1 | t1
      · rcases Bool.eq_false_or_eq_true (decide ((s.size : Int) ≤ 32)) with t2 | t2
        · (repeat' (first | refine kA ?_ | refine kB ?_ | ((first | (refine kC (N := 38) rfl (by kernel_rfl) ?_) | refine kD ?_ | refine kE ?_ | (refine kN (hP) (kP rfl) ?_) | (refine kO (hP) (kP rfl) ?_) | refine kF ?_); simp (decide := true) only [go_sem, reduceIte, reduceCtorEq, jA, jB, jC, jD, jE, jF, hlt, t1, t2]) | (apply kG; (simp (decide := true) only [go_sem, reduceIte, reduceCtorEq, jA, jB, jC, jD, jE, jF, hlt, t1, t2]; rfl); all_goals (intro hcnd; first | (exact absurd hcnd (by decide)) | skip)) | ((first | refine kH ?_ ?_ | refine kI ?_ ?_) <;> (intro hcnd; simp (decide := true) only [go_sem, reduceIte, reduceCtorEq, jA, jB, jC, jD, jE, jF, hcnd, hlt, t1, t2]))))
          have e0 : (s.size == 0) = false := beq_eq_false_iff_ne.2 (by have := of_decide_eq_true t1; omega)
          have e1 : decide ((32 : Int) < (s.size : Int)) = false := by simp at t2 ⊢; omega
          simp only [labelB, hok, hB, e0, e1]; rfl
        · (repeat' (first | refine kA ?_ | refine kB ?_ | ((first | (refine kC (N := 38) rfl (by kernel_rfl) ?_) | refine kD ?_ | refine kE ?_ | (refine kN (hP) (kP rfl) ?_) | (refine kO (hP) (kP rfl) ?_) | refine kF ?_); simp (decide := true) only [go_sem, reduceIte, reduceCtorEq, jA, jB, jC, jD, jE, jF, hlt, t1, t2]) | (apply kG; (simp (decide := true) only [go_sem, reduceIte, reduceCtorEq, jA, jB, jC, jD, jE, jF, hlt, t1, t2]; rfl); all_goals (intro hcnd; first | (exact absurd hcnd (by decide)) | skip)) | ((first | refine kH ?_ ?_ | refine kI ?_ ?_) <;> (intro hcnd; simp (decide := true) only [go_sem, reduceIte, reduceCtorEq, jA, jB, jC, jD, jE, jF, hcnd, hlt, t1, t2]))))
          have e1 : decide ((32 : Int) < (s.size : Int)) = true := by simp at t2 ⊢; omega
          simp only [labelB, hok, hB, e1]; simp
      · (repeat' (first | refine kA ?_ | refine kB ?_ | ((first | (refine kC (N := 38) rfl (by kernel_rfl) ?_) | refine kD ?_ | refine kE ?_ | (refine kN (hP) (kP rfl) ?_) | (refine kO (hP) (kP rfl) ?_) | refine kF ?_); simp (decide := true) only [go_sem, reduceIte, reduceCtorEq, jA, jB, jC, jD, jE, jF, hlt, t1]) | (apply kG; (simp (decide := true) only [go_sem, reduceIte, reduceCtorEq, jA, jB, jC, jD, jE, jF, hlt, t1]; rfl); all_goals (intro hcnd; first | (exact absurd hcnd (by decide)) | skip)) | ((first | refine kH ?_ ?_ | refine kI ?_ ?_) <;> (intro hcnd; simp (decide := true) only [go_sem, reduceIte, reduceCtorEq, jA, jB, jC, jD, jE, jF, hcnd, hlt, t1]))))
        have e0 : (s.size == 0) = true := beq_iff_eq.2 (by have := of_decide_eq_false t1; omega)
        simp only [labelB, hok, hB, e0]; rfl

def spB (s : ByteArray) : Bool := s.data.toList.any fun b => ((b.toNat : Nat) : Int) == 32 || ((b.toNat : Nat) : Int) == 45
def glossB (s : ByteArray) : Bool := labelB s && !spB s

set_option maxRecDepth 10000 in
set_option maxHeartbeats 4000000 in
theorem rGloss_D (s : ByteArray) (hs : s.size ≤ 1048576) : DCalls Tryd.prog 13 [dv (ls s)] (dv (lb (glossB s))) := by
  have hmax : maxLen = 9223372036854775807 := rfl
  have hsz := sz_list s
  refine dcalls (N := 22) (rs := [.tmp 2]) (by kernel_rfl) Tryd.func13 rfl rfl rfl (by simp) ?_
  (repeat' (first | refine kA ?_ | refine kB ?_ | ((first | (refine kC (N := 22) rfl (by kernel_rfl) ?_) | refine kD ?_ | refine kE ?_); simp (decide := true) only [go_sem, reduceIte, reduceCtorEq, jA, jB, jC, jD, jE, jF]) | (apply kG; (simp (decide := true) only [go_sem, reduceIte, reduceCtorEq, jA, jB, jC, jD, jE, jF]; rfl); all_goals (intro hcnd; first | (exact absurd hcnd (by decide)) | skip)) | ((first | refine kH ?_ ?_ | refine kI ?_ ?_) <;> (intro hcnd; simp (decide := true) only [go_sem, reduceIte, reduceCtorEq, jA, jB, jC, jD, jE, jF, hcnd]))))
  refine dw_rngI s.data.toList (fun k => kn 22 [(0, dv (ls s)), (3, dv (li k))] noMem) (fun k => ∀ e ∈ s.data.toList.take k, (((e.toNat : Nat) : Int) == 32 || ((e.toNat : Nat) : Int) == 45) = false) (by omega) (kL rfl (by simp (decide := true) only [go_sem, reduceIte, reduceCtorEq, jA, jB, jC, jD, jE, jF]) (by simp [noMem])) (by simp) ?_ ?_
  · intro k e he hk hm htk hlt hw hi
    rw [hsz] at hlt
    rcases Bool.eq_false_or_eq_true (((e.toNat : Nat) : Int) == 32) with t1 | t1
    · have hB : spB s = true := any_at he (by rw [t1]; rfl)
      (repeat' (first | refine kA ?_ | refine kB ?_ | ((first | (refine kC (N := 22) rfl (by kernel_rfl) ?_) | refine kD ?_ | refine kE ?_ | refine kF ?_); simp (decide := true) only [go_sem, reduceIte, reduceCtorEq, jA, jB, jC, jD, jE, jF, hlt, hw, he, t1, Int.toNat_natCast]) | (apply kG; (simp (decide := true) only [go_sem, reduceIte, reduceCtorEq, jA, jB, jC, jD, jE, jF, hlt, hw, he, t1, Int.toNat_natCast]; rfl); all_goals (intro hcnd; first | (exact absurd hcnd (by decide)) | skip)) | ((first | refine kH ?_ ?_ | refine kI ?_ ?_) <;> (intro hcnd; simp (decide := true) only [go_sem, reduceIte, reduceCtorEq, jA, jB, jC, jD, jE, jF, hcnd, hlt, hw, he, t1, Int.toNat_natCast]))))
      simp [glossB, hB]
    · rcases Bool.eq_false_or_eq_true (((e.toNat : Nat) : Int) == 45) with t2 | t2
      · have hB : spB s = true := any_at he (by rw [t1, t2]; rfl)
        (repeat' (first | refine kA ?_ | refine kB ?_ | ((first | (refine kC (N := 22) rfl (by kernel_rfl) ?_) | refine kD ?_ | refine kE ?_ | refine kF ?_); simp (decide := true) only [go_sem, reduceIte, reduceCtorEq, jA, jB, jC, jD, jE, jF, hlt, hw, he, t1, t2, Int.toNat_natCast]) | (apply kG; (simp (decide := true) only [go_sem, reduceIte, reduceCtorEq, jA, jB, jC, jD, jE, jF, hlt, hw, he, t1, t2, Int.toNat_natCast]; rfl); all_goals (intro hcnd; first | (exact absurd hcnd (by decide)) | skip)) | ((first | refine kH ?_ ?_ | refine kI ?_ ?_) <;> (intro hcnd; simp (decide := true) only [go_sem, reduceIte, reduceCtorEq, jA, jB, jC, jD, jE, jF, hcnd, hlt, hw, he, t1, t2, Int.toNat_natCast]))))
        simp [glossB, hB]
      · (repeat' (first | refine kA ?_ | refine kB ?_ | ((first | (refine kC (N := 22) rfl (by kernel_rfl) ?_) | refine kD ?_ | refine kE ?_ | refine kF ?_); simp (decide := true) only [go_sem, reduceIte, reduceCtorEq, jA, jB, jC, jD, jE, jF, hlt, hw, he, t1, t2, Int.toNat_natCast]) | (apply kG; (simp (decide := true) only [go_sem, reduceIte, reduceCtorEq, jA, jB, jC, jD, jE, jF, hlt, hw, he, t1, t2, Int.toNat_natCast]; rfl); all_goals (intro hcnd; first | (exact absurd hcnd (by decide)) | skip)) | ((first | refine kH ?_ ?_ | refine kI ?_ ?_) <;> (intro hcnd; simp (decide := true) only [go_sem, reduceIte, reduceCtorEq, jA, jB, jC, jD, jE, jF, hcnd, hlt, hw, he, t1, t2, Int.toNat_natCast]))))
        exact ⟨forall_snoc htk hi (by rw [t1, t2]; rfl), kL rfl (by simp (decide := true) only [go_sem, reduceIte, reduceCtorEq, jA, jB, jC, jD, jE, jF]) (by simp [noMem])⟩
  · intro hlt hi
    rw [hsz] at hlt ⊢
    have hB : spB s = false := any_take_no hi
    (repeat' (first | refine kA ?_ | refine kB ?_ | ((first | (refine kC (N := 22) rfl (by kernel_rfl) ?_) | refine kD ?_ | refine kE ?_ | (refine kN (rLabel_D s hs) (kP rfl) ?_) | (refine kO (rLabel_D s hs) (kP rfl) ?_) | refine kF ?_); simp (decide := true) only [go_sem, reduceIte, reduceCtorEq, jA, jB, jC, jD, jE, jF, hlt]) | (apply kG; (simp (decide := true) only [go_sem, reduceIte, reduceCtorEq, jA, jB, jC, jD, jE, jF, hlt]; rfl); all_goals (intro hcnd; first | (exact absurd hcnd (by decide)) | skip)) | ((first | refine kH ?_ ?_ | refine kI ?_ ?_) <;> (intro hcnd; simp (decide := true) only [go_sem, reduceIte, reduceCtorEq, jA, jB, jC, jD, jE, jF, hcnd, hlt]))))
    simp [glossB, hB]

def textE (s : ByteArray) : Int := if (200 : Int) < (s.size : Int) then 5 else if okS s = false then 3 else if ctlB s = true then 3 else 0

set_option maxRecDepth 10000 in
set_option maxHeartbeats 4000000 in
theorem text_D (s : ByteArray) : DCalls Tryd.prog 79 [dv (ls s)] (dv (li (textE s))) := by
  have hmax : maxLen = 9223372036854775807 := rfl
  have hsz := sz_list s
  refine dcalls (N := 32) (rs := [.tmp 2]) (by kernel_rfl) Tryd.func79 rfl rfl rfl (by simp) ?_
  cases h1 : decide ((200 : Int) < (s.size : Int))
  rotate_left
  · (repeat' (first | refine kA ?_ | refine kB ?_ | ((first | (refine kC (N := 32) rfl (by kernel_rfl) ?_) | refine kD ?_ | refine kE ?_ | refine kF ?_); simp (decide := true) only [go_sem, reduceIte, reduceCtorEq, jA, jB, jC, jD, jE, jF, h1]) | (apply kG; (simp (decide := true) only [go_sem, reduceIte, reduceCtorEq, jA, jB, jC, jD, jE, jF, h1]; rfl); all_goals (intro hcnd; first | (exact absurd hcnd (by decide)) | skip)) | ((first | refine kH ?_ ?_ | refine kI ?_ ?_) <;> (intro hcnd; simp (decide := true) only [go_sem, reduceIte, reduceCtorEq, jA, jB, jC, jD, jE, jF, hcnd, h1]))))
    simp only [decide_eq_true_eq] at h1
    simp [textE, h1]
  have hs : s.size ≤ 200 := by simp at h1; omega
  have hn : ¬ (200 : Int) < (s.size : Int) := by omega
  have hP := points_D s (by omega)
  cases hok : okS s
  · rw [hok] at hP
    (repeat' (first | refine kA ?_ | refine kB ?_ | ((first | (refine kC (N := 32) rfl (by kernel_rfl) ?_) | refine kD ?_ | refine kE ?_ | (refine kN (hP) (kP rfl) ?_) | (refine kO (hP) (kP rfl) ?_) | refine kF ?_); simp (decide := true) only [go_sem, reduceIte, reduceCtorEq, jA, jB, jC, jD, jE, jF, h1]) | (apply kG; (simp (decide := true) only [go_sem, reduceIte, reduceCtorEq, jA, jB, jC, jD, jE, jF, h1]; rfl); all_goals (intro hcnd; first | (exact absurd hcnd (by decide)) | skip)) | ((first | refine kH ?_ ?_ | refine kI ?_ ?_) <;> (intro hcnd; simp (decide := true) only [go_sem, reduceIte, reduceCtorEq, jA, jB, jC, jD, jE, jF, hcnd, h1]))))
    simp [textE, hn, hok]
  rw [hok] at hP
  (repeat' (first | refine kA ?_ | refine kB ?_ | ((first | (refine kC (N := 32) rfl (by kernel_rfl) ?_) | refine kD ?_ | refine kE ?_ | (refine kN (hP) (kP rfl) ?_) | (refine kO (hP) (kP rfl) ?_)); simp (decide := true) only [go_sem, reduceIte, reduceCtorEq, jA, jB, jC, jD, jE, jF, h1]) | (apply kG; (simp (decide := true) only [go_sem, reduceIte, reduceCtorEq, jA, jB, jC, jD, jE, jF, h1]; rfl); all_goals (intro hcnd; first | (exact absurd hcnd (by decide)) | skip)) | ((first | refine kH ?_ ?_ | refine kI ?_ ?_) <;> (intro hcnd; simp (decide := true) only [go_sem, reduceIte, reduceCtorEq, jA, jB, jC, jD, jE, jF, hcnd, h1]))))
  refine dw_rngI s.data.toList (fun k => kn 32 [(0, dv (ls s)), (17, dv (li s.size)), (18, dv (li k))] noMem) (fun k => ∀ e ∈ s.data.toList.take k, ctl e.toNat = false) (by omega) (kL rfl (by simp (decide := true) only [go_sem, reduceIte, reduceCtorEq, jA, jB, jC, jD, jE, jF]) (by simp [noMem])) (by simp) ?_ ?_
  · intro k e he hk hm htk hlt hw hi
    rw [hsz] at hlt
    have ht := ctl_tests e.toNat
    rcases Bool.eq_false_or_eq_true (decide (((e.toNat : Nat) : Int) < 32)) with t1 | t1
    · have hc : ctl e.toNat = true := by rw [← ht, t1]; rfl
      have hB : ctlB s = true := any_at he hc
      (repeat' (first | refine kA ?_ | refine kB ?_ | ((first | (refine kC (N := 32) rfl (by kernel_rfl) ?_) | refine kD ?_ | refine kE ?_ | refine kF ?_); simp (decide := true) only [go_sem, reduceIte, reduceCtorEq, jA, jB, jC, jD, jE, jF, hlt, hw, he, t1, Int.toNat_natCast]) | (apply kG; (simp (decide := true) only [go_sem, reduceIte, reduceCtorEq, jA, jB, jC, jD, jE, jF, hlt, hw, he, t1, Int.toNat_natCast]; rfl); all_goals (intro hcnd; first | (exact absurd hcnd (by decide)) | skip)) | ((first | refine kH ?_ ?_ | refine kI ?_ ?_) <;> (intro hcnd; simp (decide := true) only [go_sem, reduceIte, reduceCtorEq, jA, jB, jC, jD, jE, jF, hcnd, hlt, hw, he, t1, Int.toNat_natCast]))))
      simp [textE, hn, hok, hB]
    · rcases Bool.eq_false_or_eq_true (((e.toNat : Nat) : Int) == 127) with t2 | t2
      · have hc : ctl e.toNat = true := by rw [← ht, t1, t2]; rfl
        have hB : ctlB s = true := any_at he hc
        (repeat' (first | refine kA ?_ | refine kB ?_ | ((first | (refine kC (N := 32) rfl (by kernel_rfl) ?_) | refine kD ?_ | refine kE ?_ | refine kF ?_); simp (decide := true) only [go_sem, reduceIte, reduceCtorEq, jA, jB, jC, jD, jE, jF, hlt, hw, he, t1, t2, Int.toNat_natCast]) | (apply kG; (simp (decide := true) only [go_sem, reduceIte, reduceCtorEq, jA, jB, jC, jD, jE, jF, hlt, hw, he, t1, t2, Int.toNat_natCast]; rfl); all_goals (intro hcnd; first | (exact absurd hcnd (by decide)) | skip)) | ((first | refine kH ?_ ?_ | refine kI ?_ ?_) <;> (intro hcnd; simp (decide := true) only [go_sem, reduceIte, reduceCtorEq, jA, jB, jC, jD, jE, jF, hcnd, hlt, hw, he, t1, t2, Int.toNat_natCast]))))
        simp [textE, hn, hok, hB]
      · have hc : ctl e.toNat = false := by rw [← ht, t1, t2]; rfl
        (repeat' (first | refine kA ?_ | refine kB ?_ | ((first | (refine kC (N := 32) rfl (by kernel_rfl) ?_) | refine kD ?_ | refine kE ?_ | refine kF ?_); simp (decide := true) only [go_sem, reduceIte, reduceCtorEq, jA, jB, jC, jD, jE, jF, hlt, hw, he, t1, t2, Int.toNat_natCast]) | (apply kG; (simp (decide := true) only [go_sem, reduceIte, reduceCtorEq, jA, jB, jC, jD, jE, jF, hlt, hw, he, t1, t2, Int.toNat_natCast]; rfl); all_goals (intro hcnd; first | (exact absurd hcnd (by decide)) | skip)) | ((first | refine kH ?_ ?_ | refine kI ?_ ?_) <;> (intro hcnd; simp (decide := true) only [go_sem, reduceIte, reduceCtorEq, jA, jB, jC, jD, jE, jF, hcnd, hlt, hw, he, t1, t2, Int.toNat_natCast]))))
        exact ⟨forall_snoc htk hi hc, kL rfl (by simp (decide := true) only [go_sem, reduceIte, reduceCtorEq, jA, jB, jC, jD, jE, jF]) (by simp [noMem])⟩
  · intro hlt hi
    rw [hsz] at hlt ⊢
    have hB : ctlB s = false := any_take_no hi
    (repeat' (first | refine kA ?_ | refine kB ?_ | ((first | (refine kC (N := 32) rfl (by kernel_rfl) ?_) | refine kD ?_ | refine kE ?_ | refine kF ?_); simp (decide := true) only [go_sem, reduceIte, reduceCtorEq, jA, jB, jC, jD, jE, jF, hlt]) | (apply kG; (simp (decide := true) only [go_sem, reduceIte, reduceCtorEq, jA, jB, jC, jD, jE, jF, hlt]; rfl); all_goals (intro hcnd; first | (exact absurd hcnd (by decide)) | skip)) | ((first | refine kH ?_ ?_ | refine kI ?_ ?_) <;> (intro hcnd; simp (decide := true) only [go_sem, reduceIte, reduceCtorEq, jA, jB, jC, jD, jE, jF, hcnd, hlt]))))
    simp [textE, hn, hok, hB]

set_option maxRecDepth 10000 in
set_option maxHeartbeats 4000000 in
theorem rText_D (s : ByteArray) : DCalls Tryd.prog 82 [dv (ls s)] (dv (li (textE s))) := by
  have hmax : maxLen = 9223372036854775807 := rfl
  refine dcalls (N := 34) (rs := [.tmp 2]) (by kernel_rfl) Tryd.func82 rfl rfl rfl (by simp) ?_
  cases h1 : decide ((200 : Int) < (s.size : Int))
  rotate_left
  · (repeat' (first | refine kA ?_ | refine kB ?_ | ((first | (refine kC (N := 34) rfl (by kernel_rfl) ?_) | refine kD ?_ | refine kE ?_ | refine kF ?_); simp (decide := true) only [go_sem, reduceIte, reduceCtorEq, jA, jB, jC, jD, jE, jF, h1]) | (apply kG; (simp (decide := true) only [go_sem, reduceIte, reduceCtorEq, jA, jB, jC, jD, jE, jF, h1]; rfl); all_goals (intro hcnd; first | (exact absurd hcnd (by decide)) | skip)) | ((first | refine kH ?_ ?_ | refine kI ?_ ?_) <;> (intro hcnd; simp (decide := true) only [go_sem, reduceIte, reduceCtorEq, jA, jB, jC, jD, jE, jF, hcnd, h1]))))
    simp only [decide_eq_true_eq] at h1
    simp [textE, h1]
  have hs : s.size ≤ 200 := by simp at h1; omega
  have hn : ¬ (200 : Int) < (s.size : Int) := by omega
  have hP := rPoints_D s (by omega)
  cases hok : okS s
  · rw [hok] at hP
    (repeat' (first | refine kA ?_ | refine kB ?_ | ((first | (refine kC (N := 34) rfl (by kernel_rfl) ?_) | refine kD ?_ | refine kE ?_ | (refine kN (hP) (kP rfl) ?_) | (refine kO (hP) (kP rfl) ?_) | refine kF ?_); simp (decide := true) only [go_sem, reduceIte, reduceCtorEq, jA, jB, jC, jD, jE, jF, h1]) | (apply kG; (simp (decide := true) only [go_sem, reduceIte, reduceCtorEq, jA, jB, jC, jD, jE, jF, h1]; rfl); all_goals (intro hcnd; first | (exact absurd hcnd (by decide)) | skip)) | ((first | refine kH ?_ ?_ | refine kI ?_ ?_) <;> (intro hcnd; simp (decide := true) only [go_sem, reduceIte, reduceCtorEq, jA, jB, jC, jD, jE, jF, hcnd, h1]))))
    simp [textE, hn, hok]
  rw [hok] at hP
  obtain ⟨l, hl⟩ : ∃ l, ptsL s.data.toList = some l := by
    have := pts_valid s.data.toList
    unfold okS at hok
    rw [hok] at this
    exact Option.isSome_iff_exists.1 this
  have hB : ctlB s = l.any ctl := (ctl_pts _ _ l (Nat.le_refl _) hl).symm
  have hpl : ptsR s = nl l := by unfold ptsR; rw [hl]; rfl
  rw [hpl] at hP
  have hll : l.length ≤ 1000000 := by
    have := pts_len _ _ l (Nat.le_refl _) hl
    simp at this; omega
  have hnl : (ints (nl l)).length = l.length := by simp [nl]
  (repeat' (first | refine kA ?_ | refine kB ?_ | ((first | (refine kC (N := 34) rfl (by kernel_rfl) ?_) | refine kD ?_ | refine kE ?_ | (refine kN (hP) (kP rfl) ?_) | (refine kO (hP) (kP rfl) ?_)); simp (decide := true) only [go_sem, reduceIte, reduceCtorEq, jA, jB, jC, jD, jE, jF, h1]) | (apply kG; (simp (decide := true) only [go_sem, reduceIte, reduceCtorEq, jA, jB, jC, jD, jE, jF, h1]; rfl); all_goals (intro hcnd; first | (exact absurd hcnd (by decide)) | skip)) | ((first | refine kH ?_ ?_ | refine kI ?_ ?_) <;> (intro hcnd; simp (decide := true) only [go_sem, reduceIte, reduceCtorEq, jA, jB, jC, jD, jE, jF, hcnd, h1]))))
  refine dw_rngI l (fun k => kn 34 [(3, dv (.sl 1 (ints (nl l)))), (5, dv (li k))] noMem) (fun k => ∀ e ∈ l.take k, ctl e = false) (by omega) (kL rfl (by simp (decide := true) only [go_sem, reduceIte, reduceCtorEq, jA, jB, jC, jD, jE, jF]) (by simp [noMem])) (by simp) ?_ ?_
  · intro k e he hk hm htk hlt hw hi
    have ht := ctl_tests e
    have hx : (ints (nl l))[k]? = some [li (e : Int)] := by simp [nl, he]
    rcases Bool.eq_false_or_eq_true (decide (((e : Nat) : Int) < 32)) with t1 | t1
    · have hc : ctl e = true := by rw [← ht, t1]; rfl
      have hB' : ctlB s = true := by rw [hB]; exact any_at he hc
      (repeat' (first | refine kA ?_ | refine kB ?_ | ((first | (refine kC (N := 34) rfl (by kernel_rfl) ?_) | refine kD ?_ | refine kE ?_ | refine kF ?_); simp (decide := true) only [go_sem, reduceIte, reduceCtorEq, jA, jB, jC, jD, jE, jF, hnl, hlt, hw, hx, t1]) | (apply kG; (simp (decide := true) only [go_sem, reduceIte, reduceCtorEq, jA, jB, jC, jD, jE, jF, hnl, hlt, hw, hx, t1]; rfl); all_goals (intro hcnd; first | (exact absurd hcnd (by decide)) | skip)) | ((first | refine kH ?_ ?_ | refine kI ?_ ?_) <;> (intro hcnd; simp (decide := true) only [go_sem, reduceIte, reduceCtorEq, jA, jB, jC, jD, jE, jF, hcnd, hnl, hlt, hw, hx, t1]))))
      simp [textE, hn, hok, hB']
    · rcases Bool.eq_false_or_eq_true (((e : Nat) : Int) == 127) with t2 | t2
      · have hc : ctl e = true := by rw [← ht, t1, t2]; rfl
        have hB' : ctlB s = true := by rw [hB]; exact any_at he hc
        (repeat' (first | refine kA ?_ | refine kB ?_ | ((first | (refine kC (N := 34) rfl (by kernel_rfl) ?_) | refine kD ?_ | refine kE ?_ | refine kF ?_); simp (decide := true) only [go_sem, reduceIte, reduceCtorEq, jA, jB, jC, jD, jE, jF, hnl, hlt, hw, hx, t1, t2]) | (apply kG; (simp (decide := true) only [go_sem, reduceIte, reduceCtorEq, jA, jB, jC, jD, jE, jF, hnl, hlt, hw, hx, t1, t2]; rfl); all_goals (intro hcnd; first | (exact absurd hcnd (by decide)) | skip)) | ((first | refine kH ?_ ?_ | refine kI ?_ ?_) <;> (intro hcnd; simp (decide := true) only [go_sem, reduceIte, reduceCtorEq, jA, jB, jC, jD, jE, jF, hcnd, hnl, hlt, hw, hx, t1, t2]))))
        simp [textE, hn, hok, hB']
      · have hc : ctl e = false := by rw [← ht, t1, t2]; rfl
        (repeat' (first | refine kA ?_ | refine kB ?_ | ((first | (refine kC (N := 34) rfl (by kernel_rfl) ?_) | refine kD ?_ | refine kE ?_ | refine kF ?_); simp (decide := true) only [go_sem, reduceIte, reduceCtorEq, jA, jB, jC, jD, jE, jF, hnl, hlt, hw, hx, t1, t2]) | (apply kG; (simp (decide := true) only [go_sem, reduceIte, reduceCtorEq, jA, jB, jC, jD, jE, jF, hnl, hlt, hw, hx, t1, t2]; rfl); all_goals (intro hcnd; first | (exact absurd hcnd (by decide)) | skip)) | ((first | refine kH ?_ ?_ | refine kI ?_ ?_) <;> (intro hcnd; simp (decide := true) only [go_sem, reduceIte, reduceCtorEq, jA, jB, jC, jD, jE, jF, hcnd, hnl, hlt, hw, hx, t1, t2]))))
        exact ⟨forall_snoc htk hi hc, kL rfl (by simp (decide := true) only [go_sem, reduceIte, reduceCtorEq, jA, jB, jC, jD, jE, jF]) (by simp [noMem])⟩
  · intro hlt hi
    have hB' : ctlB s = false := by rw [hB]; exact any_take_no hi
    (repeat' (first | refine kA ?_ | refine kB ?_ | ((first | (refine kC (N := 34) rfl (by kernel_rfl) ?_) | refine kD ?_ | refine kE ?_ | refine kF ?_); simp (decide := true) only [go_sem, reduceIte, reduceCtorEq, jA, jB, jC, jD, jE, jF, hnl, hlt]) | (apply kG; (simp (decide := true) only [go_sem, reduceIte, reduceCtorEq, jA, jB, jC, jD, jE, jF, hnl, hlt]; rfl); all_goals (intro hcnd; first | (exact absurd hcnd (by decide)) | skip)) | ((first | refine kH ?_ ?_ | refine kI ?_ ?_) <;> (intro hcnd; simp (decide := true) only [go_sem, reduceIte, reduceCtorEq, jA, jB, jC, jD, jE, jF, hcnd, hnl, hlt]))))
    simp [textE, hn, hok, hB']
end Go.Proofs.YtiaamlaibfpdgaaDoor

/- Strings: looking for a blank or a minus sign: one character beyond ASCII. -/
namespace Go.Proofs.YtiaamlaibfpdgaaDoor
open Go.Dl Go.RowKit Go.Shelf
attribute [local irreducible] DW DCalls ECalls wk IW

def sp2 : ByteArray := { data := #[32, 45] }

theorem enc2 {c : Nat} (h : 128 ≤ c) (h2 : c < 2048) : ∃ x y : UInt8, Utf8.encode (c : Int) = { data := #[x, y] } ∧ 128 ≤ y.toNat := by
  refine ⟨UInt8.ofNat (0xC0 + c / 64), UInt8.ofNat (0x80 + c % 64), ?_, ?_⟩
  · have hv : Utf8.valid (c : Int) = true := by simp [Utf8.valid]; omega
    simp [Utf8.encode, hv, show ¬ c < 128 by omega, h2]
  · simp; omega
theorem enc34 {c : Nat} (h : 2048 ≤ c) (hc : scalN c) : ∃ k : Nat, k ≤ 1 ∧ (Utf8.encode (c : Int)).size = k + 3 := by
  have hv : Utf8.valid (c : Int) = true := by obtain ⟨h1, h2⟩ := hc; simp [Utf8.valid]; omega
  by_cases h3 : c < 65536
  · exact ⟨0, by omega, by simp [Utf8.encode, hv, show ¬ c < 128 by omega, show ¬ c < 2048 by omega, h3]; rfl⟩
  · exact ⟨1, by omega, by simp [Utf8.encode, hv, show ¬ c < 128 by omega, show ¬ c < 2048 by omega, h3]; rfl⟩


--F102
set_option maxRecDepth 10000 in
theorem validRune_D (c : Nat) (hc : scalN c) : DCalls Tryd.prog 102 [dv (.lit (.int .i32 (c : Int)))] (dv (lb true)) := by
  obtain ⟨h1, h2⟩ := hc
  have e1 : decide ((0 : Int) ≤ (c : Int)) = true := by simp
  by_cases h3 : c < 55296
  · have e2 : decide ((c : Int) < 55296) = true := by simp; omega
    refine dcalls (N := 17) (rs := [.tmp 2]) (by kernel_rfl) Tryd.func102 rfl rfl rfl (by simp) ?_
    (repeat' (first | (refine dw_seq ?_) | (refine dw_block ?_) | ((first | (refine dw_reg (N := 17) rfl (by kernel_rfl) ?_) | (refine dw_skip ?_) | (refine dw_exit ?_) | (refine dw_ret ?_)); simp (decide := true) only [go_sem, reduceIte, reduceCtorEq, jA, jB, jC, jD, jE, jF, e1, e2]) | (apply dw_cond; (simp (decide := true) only [go_sem, reduceIte, reduceCtorEq, jA, jB, jC, jD, jE, jF, e1, e2]; rfl); all_goals (intro hcnd; first | (exact absurd hcnd (by decide)) | skip)) | ((first | refine guardC_f ?_ ?_ | refine guardC_t ?_ ?_) <;> (intro hcnd; simp (decide := true) only [go_sem, reduceIte, reduceCtorEq, jA, jB, jC, jD, jE, jF, hcnd, e1, e2]))))
  · have e2 : decide ((c : Int) < 55296) = false := by simp; omega
    have e3 : decide ((57343 : Int) < (c : Int)) = true := by simp; omega
    have e4 : decide ((c : Int) ≤ 1114111) = true := by simp; omega
    refine dcalls (N := 17) (rs := [.tmp 2]) (by kernel_rfl) Tryd.func102 rfl rfl rfl (by simp) ?_
    (repeat' (first | (refine dw_seq ?_) | (refine dw_block ?_) | ((first | (refine dw_reg (N := 17) rfl (by kernel_rfl) ?_) | (refine dw_skip ?_) | (refine dw_exit ?_) | (refine dw_ret ?_)); simp (decide := true) only [go_sem, reduceIte, reduceCtorEq, jA, jB, jC, jD, jE, jF, e1, e2, e3, e4]) | (apply dw_cond; (simp (decide := true) only [go_sem, reduceIte, reduceCtorEq, jA, jB, jC, jD, jE, jF, e1, e2, e3, e4]; rfl); all_goals (intro hcnd; first | (exact absurd hcnd (by decide)) | skip)) | ((first | refine guardC_f ?_ ?_ | refine guardC_t ?_ ?_) <;> (intro hcnd; simp (decide := true) only [go_sem, reduceIte, reduceCtorEq, jA, jB, jC, jD, jE, jF, hcnd, e1, e2, e3, e4]))))

theorem indexByte0_D (y : Int) : DCalls Tryd.prog 101 [dv (ls ByteArray.empty), dv (.lit (.int .u8 y))] (dv (li (-1))) := by
  refine dcalls_below (by kernel_rfl) rfl fun w K vs hk hl hv => ?_
  obtain ⟨a, b, rfl⟩ : ∃ a b, vs = #[a, b] := by
    rcases vs with ⟨l⟩
    match l, hl with
    | [a, b], _ => exact ⟨a, b, rfl⟩
  have h0 := (hv 0 _ a rfl rfl).lit
  have h1 := (hv 1 _ b rfl rfl).lit
  subst h0; subst h1
  refine (Any.strings_IndexByte { Tryd.laysC with } _ _ _).mono ?_
  rintro e w1 ⟨rfl, rfl⟩
  exact ⟨rfl, Below.refl _ _⟩

theorem dw_loop1 {P : Program} {s : DS} {Q : Exit → DS → Prop} {c : Code} (h : DW P c s (thenD (fun _ => False) Q)) : DW P (.loop c) s Q :=
  dw_loop_fam (fun _ : Unit => s) (fun _ => True) (fun _ => 0) () (DS.Sub.refl _) trivial fun _ _ => h.mono fun e s' hs => by
    cases e <;> first | exact hs | exact hs.elim

--F86
set_option maxRecDepth 10000 in
set_option maxHeartbeats 4000000 in
theorem indexRune2_D (c : Nat) (hc : scalN c) (h : 128 ≤ c) (h2 : c < 2048) : DCalls Tryd.prog 86 [dv (ls sp2), dv (.lit (.int .i32 (c : Int)))] (dv (li (-1))) := by
  obtain ⟨x, y, hE, hy⟩ := enc2 h h2
  have e1 : decide ((0 : Int) ≤ (c : Int)) = true := by simp
  have e2 : decide ((c : Int) < 128) = false := by simp; omega
  have e3 : ((c : Int) == 65533) = false := by simp; omega
  have z1 : (Utf8.encode (c : Int)).size = 2 := by rw [hE]; rfl
  have z2 : (Utf8.encode (c : Int)).data.toList[1]? = some y := by rw [hE]; rfl
  have z3 : sp2.size = 2 := rfl
  have z4 : sp2.data.toList[1]? = some 45 := rfl
  have z5 : sp2.extract 2 2 = ByteArray.empty := by decide
  have e4 : ((UInt8.toNat 45 : Int) != (y.toNat : Int)) = true := by
    have : UInt8.toNat 45 = 45 := rfl
    rw [this]; simp; omega
  have w1 : IntKind.i64.wrap (2 - 1) = 1 := rfl
  have w2 : IntKind.i64.wrap (1 + 1) = 2 := rfl
  have w3 : (1 : Int).toNat = 1 := rfl
  have w4 : (2 : Int).toNat = 2 := rfl
  refine dcalls (N := 187) (rs := [.tmp 4]) (by kernel_rfl) Tryd.func86 rfl rfl rfl (by simp) ?_
  (repeat' (first | (refine dw_seq ?_) | (refine dw_block ?_) | ((first | (refine dw_reg (N := 187) rfl (by kernel_rfl) ?_) | (apply dw_drw (id := 6) (N := 187) [(0, .light), (1, .light), (2, .light), (3, .light), (4, .light), (5, .light), (6, .light)]; kernel_rfl; rfl; kernel_rfl; (repeat (first | exact Picks.nil | (apply Picks.cons; rfl)))) | (apply dw_drw (id := 7) (N := 187) [(0, .light), (1, .light), (2, .light), (3, .light), (4, .light), (5, .light), (6, .light), (7, .step), (8, .light)]; kernel_rfl; rfl; kernel_rfl; (repeat (first | exact Picks.nil | (apply Picks.cons; rfl)))) | (apply dw_drw (id := 14) (N := 187) [(0, .light), (1, .light), (2, .light), (3, .light), (4, .light), (5, .light), (6, .light), (7, .light), (8, .light), (9, .light), (10, .light)]; kernel_rfl; rfl; kernel_rfl; (repeat (first | exact Picks.nil | (apply Picks.cons; rfl)))) | (apply dw_drw (id := 31) (N := 187) [(0, .light), (1, .light), (2, .light), (3, .light), (4, .light), (5, .light), (6, .light), (7, .light), (8, .light), (9, .light), (10, .light)]; kernel_rfl; rfl; kernel_rfl; (repeat (first | exact Picks.nil | (apply Picks.cons; rfl)))) | (refine dw_skip ?_) | (refine dw_exit ?_) | (refine CallC.mk (validRune_D c hc) (LeL.of_eq rfl) ?_) | (refine CallC.light (validRune_D c hc) (LeL.of_eq rfl) ?_)); simp (decide := true) only [go_sem, reduceIte, reduceCtorEq, jA, jB, jC, jD, jE, jF, e1, e2, e3]) | (apply dw_cond; (simp (decide := true) only [go_sem, reduceIte, reduceCtorEq, jA, jB, jC, jD, jE, jF, e1, e2, e3]; rfl); all_goals (intro hcnd; first | (exact absurd hcnd (by decide)) | skip)) | ((first | refine guardC_f ?_ ?_ | refine guardC_t ?_ ?_) <;> (intro hcnd; simp (decide := true) only [go_sem, reduceIte, reduceCtorEq, jA, jB, jC, jD, jE, jF, hcnd, e1, e2, e3]))))
  refine dw_scope ?_
  (repeat' (first | (refine dw_seq ?_) | (refine dw_block ?_) | ((first | (refine dw_reg (N := 187) rfl (by kernel_rfl) ?_) | (apply dw_drw (id := 6) (N := 187) [(0, .light), (1, .light), (2, .light), (3, .light), (4, .light), (5, .light), (6, .light)]; kernel_rfl; rfl; kernel_rfl; (repeat (first | exact Picks.nil | (apply Picks.cons; rfl)))) | (apply dw_drw (id := 7) (N := 187) [(0, .light), (1, .light), (2, .light), (3, .light), (4, .light), (5, .light), (6, .light), (7, .step), (8, .light)]; kernel_rfl; rfl; kernel_rfl; (repeat (first | exact Picks.nil | (apply Picks.cons; rfl)))) | (apply dw_drw (id := 14) (N := 187) [(0, .light), (1, .light), (2, .light), (3, .light), (4, .light), (5, .light), (6, .light), (7, .light), (8, .light), (9, .light), (10, .light)]; kernel_rfl; rfl; kernel_rfl; (repeat (first | exact Picks.nil | (apply Picks.cons; rfl)))) | (apply dw_drw (id := 31) (N := 187) [(0, .light), (1, .light), (2, .light), (3, .light), (4, .light), (5, .light), (6, .light), (7, .light), (8, .light), (9, .light), (10, .light)]; kernel_rfl; rfl; kernel_rfl; (repeat (first | exact Picks.nil | (apply Picks.cons; rfl)))) | (refine dw_skip ?_) | (refine dw_exit ?_)); simp (decide := true) only [go_sem, reduceIte, reduceCtorEq, jA, jB, jC, jD, jE, jF, z1, z2, z3, z4, z5, w1, w2, w3, w4]) | (apply dw_cond; (simp (decide := true) only [go_sem, reduceIte, reduceCtorEq, jA, jB, jC, jD, jE, jF, z1, z2, z3, z4, z5, w1, w2, w3, w4]; rfl); all_goals (intro hcnd; first | (exact absurd hcnd (by decide)) | skip)) | ((first | refine guardC_f ?_ ?_ | refine guardC_t ?_ ?_) <;> (intro hcnd; simp (decide := true) only [go_sem, reduceIte, reduceCtorEq, jA, jB, jC, jD, jE, jF, hcnd, z1, z2, z3, z4, z5, w1, w2, w3, w4]))))
  refine dw_loop1 ?_
  (repeat' (first | (refine dw_seq ?_) | (refine dw_block ?_) | ((first | (refine dw_reg (N := 187) rfl (by kernel_rfl) ?_) | (apply dw_drw (id := 6) (N := 187) [(0, .light), (1, .light), (2, .light), (3, .light), (4, .light), (5, .light), (6, .light)]; kernel_rfl; rfl; kernel_rfl; (repeat (first | exact Picks.nil | (apply Picks.cons; rfl)))) | (apply dw_drw (id := 7) (N := 187) [(0, .light), (1, .light), (2, .light), (3, .light), (4, .light), (5, .light), (6, .light), (7, .step), (8, .light)]; kernel_rfl; rfl; kernel_rfl; (repeat (first | exact Picks.nil | (apply Picks.cons; rfl)))) | (apply dw_drw (id := 14) (N := 187) [(0, .light), (1, .light), (2, .light), (3, .light), (4, .light), (5, .light), (6, .light), (7, .light), (8, .light), (9, .light), (10, .light)]; kernel_rfl; rfl; kernel_rfl; (repeat (first | exact Picks.nil | (apply Picks.cons; rfl)))) | (apply dw_drw (id := 31) (N := 187) [(0, .light), (1, .light), (2, .light), (3, .light), (4, .light), (5, .light), (6, .light), (7, .light), (8, .light), (9, .light), (10, .light)]; kernel_rfl; rfl; kernel_rfl; (repeat (first | exact Picks.nil | (apply Picks.cons; rfl)))) | (refine dw_skip ?_) | (refine dw_exit ?_)); simp (decide := true) only [go_sem, reduceIte, reduceCtorEq, jA, jB, jC, jD, jE, jF, z1, z2, z3, z4, z5, w1, w2, w3, w4]) | (apply dw_cond; (simp (decide := true) only [go_sem, reduceIte, reduceCtorEq, jA, jB, jC, jD, jE, jF, z1, z2, z3, z4, z5, w1, w2, w3, w4]; rfl); all_goals (intro hcnd; first | (exact absurd hcnd (by decide)) | skip)) | ((first | refine guardC_f ?_ ?_ | refine guardC_t ?_ ?_) <;> (intro hcnd; simp (decide := true) only [go_sem, reduceIte, reduceCtorEq, jA, jB, jC, jD, jE, jF, hcnd, z1, z2, z3, z4, z5, w1, w2, w3, w4]))))
  refine dw_scope ?_
  (repeat' (first | (refine dw_seq ?_) | (refine dw_block ?_) | ((first | (refine dw_reg (N := 187) rfl (by kernel_rfl) ?_) | (apply dw_drw (id := 6) (N := 187) [(0, .light), (1, .light), (2, .light), (3, .light), (4, .light), (5, .light), (6, .light)]; kernel_rfl; rfl; kernel_rfl; (repeat (first | exact Picks.nil | (apply Picks.cons; rfl)))) | (apply dw_drw (id := 7) (N := 187) [(0, .light), (1, .light), (2, .light), (3, .light), (4, .light), (5, .light), (6, .light), (7, .step), (8, .light)]; kernel_rfl; rfl; kernel_rfl; (repeat (first | exact Picks.nil | (apply Picks.cons; rfl)))) | (apply dw_drw (id := 14) (N := 187) [(0, .light), (1, .light), (2, .light), (3, .light), (4, .light), (5, .light), (6, .light), (7, .light), (8, .light), (9, .light), (10, .light)]; kernel_rfl; rfl; kernel_rfl; (repeat (first | exact Picks.nil | (apply Picks.cons; rfl)))) | (apply dw_drw (id := 31) (N := 187) [(0, .light), (1, .light), (2, .light), (3, .light), (4, .light), (5, .light), (6, .light), (7, .light), (8, .light), (9, .light), (10, .light)]; kernel_rfl; rfl; kernel_rfl; (repeat (first | exact Picks.nil | (apply Picks.cons; rfl)))) | (refine dw_skip ?_) | (refine dw_exit ?_) | (refine CallC.mk (indexByte0_D y.toNat) (LeL.of_eq rfl) ?_) | (refine CallC.light (indexByte0_D y.toNat) (LeL.of_eq rfl) ?_) | (refine dw_ret ?_)); simp (decide := true) only [go_sem, reduceIte, reduceCtorEq, jA, jB, jC, jD, jE, jF, z1, z2, z3, z4, z5, w1, w2, w3, w4, e4]) | (apply dw_cond; (simp (decide := true) only [go_sem, reduceIte, reduceCtorEq, jA, jB, jC, jD, jE, jF, z1, z2, z3, z4, z5, w1, w2, w3, w4, e4]; rfl); all_goals (intro hcnd; first | (exact absurd hcnd (by decide)) | skip)) | ((first | refine guardC_f ?_ ?_ | refine guardC_t ?_ ?_) <;> (intro hcnd; simp (decide := true) only [go_sem, reduceIte, reduceCtorEq, jA, jB, jC, jD, jE, jF, hcnd, z1, z2, z3, z4, z5, w1, w2, w3, w4, e4]))))

--F86
set_option maxRecDepth 10000 in
set_option maxHeartbeats 4000000 in
theorem indexRune3_D (c : Nat) (hc : scalN c) (h : 2048 ≤ c) (hx : c ≠ 65533) : DCalls Tryd.prog 86 [dv (ls sp2), dv (.lit (.int .i32 (c : Int)))] (dv (li (-1))) := by
  have hmax : maxLen = 9223372036854775807 := rfl
  obtain ⟨k, hk4, hk⟩ := enc34 h hc
  have e1 : decide ((0 : Int) ≤ (c : Int)) = true := by simp
  have e2 : decide ((c : Int) < 128) = false := by simp; omega
  have e3 : ((c : Int) == 65533) = false := by simp; omega
  have z3 : sp2.size = 2 := rfl
  have w1 : IntKind.i64.wrap (((k + 3 : Nat) : Int) - 1) = ((k + 2 : Nat) : Int) := by
    rw [show ((k + 3 : Nat) : Int) - 1 = ((k + 2 : Nat) : Int) by omega]; exact wrap64n (by omega)
  have w2 : decide (((k + 2 : Nat) : Int) < 2) = false := decide_eq_false (by omega)
  refine dcalls (N := 187) (rs := [.tmp 4]) (by kernel_rfl) Tryd.func86 rfl rfl rfl (by simp) ?_
  (repeat' (first | (refine dw_seq ?_) | (refine dw_block ?_) | ((first | (refine dw_reg (N := 187) rfl (by kernel_rfl) ?_) | (apply dw_drw (id := 6) (N := 187) [(0, .light), (1, .light), (2, .light), (3, .light), (4, .light), (5, .light), (6, .light)]; kernel_rfl; rfl; kernel_rfl; (repeat (first | exact Picks.nil | (apply Picks.cons; rfl)))) | (apply dw_drw (id := 7) (N := 187) [(0, .light), (1, .light), (2, .light), (3, .light), (4, .light), (5, .light), (6, .light), (7, .step), (8, .light)]; kernel_rfl; rfl; kernel_rfl; (repeat (first | exact Picks.nil | (apply Picks.cons; rfl)))) | (apply dw_drw (id := 14) (N := 187) [(0, .light), (1, .light), (2, .light), (3, .light), (4, .light), (5, .light), (6, .light), (7, .light), (8, .light), (9, .light), (10, .light)]; kernel_rfl; rfl; kernel_rfl; (repeat (first | exact Picks.nil | (apply Picks.cons; rfl)))) | (apply dw_drw (id := 31) (N := 187) [(0, .light), (1, .light), (2, .light), (3, .light), (4, .light), (5, .light), (6, .light), (7, .light), (8, .light), (9, .light), (10, .light)]; kernel_rfl; rfl; kernel_rfl; (repeat (first | exact Picks.nil | (apply Picks.cons; rfl)))) | (refine dw_skip ?_) | (refine dw_exit ?_) | (refine CallC.mk (validRune_D c hc) (LeL.of_eq rfl) ?_) | (refine CallC.light (validRune_D c hc) (LeL.of_eq rfl) ?_)); simp (decide := true) only [go_sem, reduceIte, reduceCtorEq, jA, jB, jC, jD, jE, jF, e1, e2, e3]) | (apply dw_cond; (simp (decide := true) only [go_sem, reduceIte, reduceCtorEq, jA, jB, jC, jD, jE, jF, e1, e2, e3]; rfl); all_goals (intro hcnd; first | (exact absurd hcnd (by decide)) | skip)) | ((first | refine guardC_f ?_ ?_ | refine guardC_t ?_ ?_) <;> (intro hcnd; simp (decide := true) only [go_sem, reduceIte, reduceCtorEq, jA, jB, jC, jD, jE, jF, hcnd, e1, e2, e3]))))
  refine dw_scope ?_
  (repeat' (first | (refine dw_seq ?_) | (refine dw_block ?_) | ((first | (refine dw_reg (N := 187) rfl (by kernel_rfl) ?_) | (apply dw_drw (id := 6) (N := 187) [(0, .light), (1, .light), (2, .light), (3, .light), (4, .light), (5, .light), (6, .light)]; kernel_rfl; rfl; kernel_rfl; (repeat (first | exact Picks.nil | (apply Picks.cons; rfl)))) | (apply dw_drw (id := 7) (N := 187) [(0, .light), (1, .light), (2, .light), (3, .light), (4, .light), (5, .light), (6, .light), (7, .step), (8, .light)]; kernel_rfl; rfl; kernel_rfl; (repeat (first | exact Picks.nil | (apply Picks.cons; rfl)))) | (apply dw_drw (id := 14) (N := 187) [(0, .light), (1, .light), (2, .light), (3, .light), (4, .light), (5, .light), (6, .light), (7, .light), (8, .light), (9, .light), (10, .light)]; kernel_rfl; rfl; kernel_rfl; (repeat (first | exact Picks.nil | (apply Picks.cons; rfl)))) | (apply dw_drw (id := 31) (N := 187) [(0, .light), (1, .light), (2, .light), (3, .light), (4, .light), (5, .light), (6, .light), (7, .light), (8, .light), (9, .light), (10, .light)]; kernel_rfl; rfl; kernel_rfl; (repeat (first | exact Picks.nil | (apply Picks.cons; rfl)))) | (refine dw_skip ?_) | (refine dw_exit ?_)); simp (decide := true) only [go_sem, reduceIte, reduceCtorEq, jA, jB, jC, jD, jE, jF, hk, z3, w1, w2]) | (apply dw_cond; (simp (decide := true) only [go_sem, reduceIte, reduceCtorEq, jA, jB, jC, jD, jE, jF, hk, z3, w1, w2]; rfl); all_goals (intro hcnd; first | (exact absurd hcnd (by decide)) | skip)) | ((first | refine guardC_f ?_ ?_ | refine guardC_t ?_ ?_) <;> (intro hcnd; simp (decide := true) only [go_sem, reduceIte, reduceCtorEq, jA, jB, jC, jD, jE, jF, hcnd, hk, z3, w1, w2]))))
  refine dw_loop1 ?_
  (repeat' (first | (refine dw_seq ?_) | (refine dw_block ?_) | ((first | (refine dw_reg (N := 187) rfl (by kernel_rfl) ?_) | (apply dw_drw (id := 6) (N := 187) [(0, .light), (1, .light), (2, .light), (3, .light), (4, .light), (5, .light), (6, .light)]; kernel_rfl; rfl; kernel_rfl; (repeat (first | exact Picks.nil | (apply Picks.cons; rfl)))) | (apply dw_drw (id := 7) (N := 187) [(0, .light), (1, .light), (2, .light), (3, .light), (4, .light), (5, .light), (6, .light), (7, .step), (8, .light)]; kernel_rfl; rfl; kernel_rfl; (repeat (first | exact Picks.nil | (apply Picks.cons; rfl)))) | (apply dw_drw (id := 14) (N := 187) [(0, .light), (1, .light), (2, .light), (3, .light), (4, .light), (5, .light), (6, .light), (7, .light), (8, .light), (9, .light), (10, .light)]; kernel_rfl; rfl; kernel_rfl; (repeat (first | exact Picks.nil | (apply Picks.cons; rfl)))) | (apply dw_drw (id := 31) (N := 187) [(0, .light), (1, .light), (2, .light), (3, .light), (4, .light), (5, .light), (6, .light), (7, .light), (8, .light), (9, .light), (10, .light)]; kernel_rfl; rfl; kernel_rfl; (repeat (first | exact Picks.nil | (apply Picks.cons; rfl)))) | (refine dw_skip ?_) | (refine dw_exit ?_) | (refine dw_ret ?_)); simp (decide := true) only [go_sem, reduceIte, reduceCtorEq, jA, jB, jC, jD, jE, jF, hk, z3, w1, w2]) | (apply dw_cond; (simp (decide := true) only [go_sem, reduceIte, reduceCtorEq, jA, jB, jC, jD, jE, jF, hk, z3, w1, w2]; rfl); all_goals (intro hcnd; first | (exact absurd hcnd (by decide)) | skip)) | ((first | refine guardC_f ?_ ?_ | refine guardC_t ?_ ?_) <;> (intro hcnd; simp (decide := true) only [go_sem, reduceIte, reduceCtorEq, jA, jB, jC, jD, jE, jF, hcnd, hk, z3, w1, w2]))))

theorem rune_step {s : ByteArray} {q : Nat} (hq : q < s.size) (hv : (ptsL (s.data.toList.drop q)).isSome = true) :
    scalN (Utf8.decode s q).1 ∧ (ptsL (s.data.toList.drop (q + (Utf8.decode s q).2))).isSome = true ∧ 1 ≤ (Utf8.decode s q).2 ∧ q + (Utf8.decode s q).2 ≤ s.size ∧
      (((Utf8.decode s q).1 < 128 ∧ (Utf8.decode s q).2 = 1 ∧ s.data.toList[q]? = some (UInt8.ofNat (Utf8.decode s q).1)) ∨ (128 ≤ (Utf8.decode s q).1 ∧ ∀ j, q ≤ j → j < q + (Utf8.decode s q).2 → ∀ b, s.data.toList[j]? = some b → 128 ≤ b.toNat)) := by
  rw [← Go.Lib.decodeL_drop]
  have hsz : s.data.toList.length = s.size := by simp
  cases hb : s.data.toList.drop q with
  | nil => have := congrArg List.length hb; simp at this; omega
  | cons b r =>
    rw [hb] at hv
    have hne : (b :: r) ≠ [] := by simp
    have hat : ∀ j, s.data.toList[q + j]? = (b :: r)[j]? := fun j => by rw [← hb, List.getElem?_drop]
    have hqb : s.data.toList[q]? = some b := hat 0
    have hbl : (b :: r).length = s.size - q := by rw [← hb]; simp
    cases hf : fstL (b :: r) with
    | none => rw [ptsL_bad hne hf] at hv; cases hv
    | some d =>
      obtain ⟨p, k⟩ := d
      have hw := fstL_width hf
      have hd : Go.Lib.decodeL (b :: r) = (p, k) := by
        have h := fstL_decode hne
        rw [hf, okN_iff] at h
        split at h
        · cases h
        · injection h with h; exact h.symm
      rw [hd]
      have hsc : scalN p := by
        by_cases hl : leadN (bAt (b :: r) 0) ≤ (b :: r).length
        · rw [fstL_eq hl] at hf
          split at hf
          · rename_i hs
            injection hf with hf; injection hf with h1 h2
            rw [h1] at hs; exact hs.1
          · cases hf
        · rw [fstL_short (by omega)] at hf; cases hf
      refine ⟨hsc, ?_, hw.1, by show q + k ≤ _; omega, ?_⟩
      · rw [ptsL_step hf, Option.isSome_map] at hv
        rw [← List.drop_drop, hb]; exact hv
      · by_cases h128 : b.toNat < 128
        · rw [fst_ascii h128] at hf
          injection hf with hf; injection hf with h1 h2
          subst h1; subst h2
          exact .inl ⟨h128, rfl, by rw [hqb]; simp⟩
        · obtain ⟨h1, h2⟩ := fst_wide hf (by simp [bAt]; omega)
          refine .inr ⟨h1, fun j hj1 hj2 x hx => h2 x ?_⟩
          obtain ⟨m, rfl⟩ : ∃ m, j = q + m := ⟨j - q, by omega⟩
          rw [hat] at hx
          have hm : m < k := by show m < k; have : q + m < q + k := hj2; omega
          exact List.mem_of_getElem? (i := m) (by rw [List.getElem?_take, if_pos hm]; exact hx)

theorem sp2_no {b : UInt8} (h : 128 ≤ b.toNat) : sp2.data.toList.contains b = false := by
  have h1 : ¬ b = 32 := fun e => by subst e; exact absurd h (by decide)
  have h2 : ¬ b = 45 := fun e => by subst e; exact absurd h (by decide)
  show List.contains [32, 45] b = false
  simp [List.contains_cons, h1, h2]
def noSp (s : ByteArray) (q : Nat) : Prop := Go.Lib.NoAny s.data.toList sp2.data.toList q

set_option maxHeartbeats 4000000 in
set_option maxRecDepth 1000000 in
theorem indexRune_bad (w : World) : Calls Tryd.prog 86 #[.string sp2, .int .i32 65533] w fun e w' => e = .returned (.int .i64 (-1)) ∧ Below w.heap.size w w' := by
  go_enter Tryd.func86, Tryd.ntmps86
  go_wp2
  go_loopg [5, 6] 2 (fun g _ _ wx => ∃ i : Nat, i + g = 2 ∧ wx = w.iter sp2 i)
  case atStart => exact ⟨0, by omega, rfl⟩
  case round =>
    obtain ⟨i, hig, rfl⟩ := hrel
    cases gk with
    | zero =>
      obtain rfl : i = 2 := by omega
      have hnx := fun ty => run_next_end (P := Tryd.prog) w sp2 2 ty (by decide)
      go_wp2
      go_ret
      exact ⟨rfl, (Below.refl _ w).alloc (Nat.le_refl _) _⟩
    | succ g =>
      have hi : i < sp2.size := by show i < 2; omega
      obtain ⟨x, hx, hx2⟩ : ∃ x : UInt8, sp2[i]'hi = x ∧ x.toNat < 128 := by
        obtain rfl | rfl : i = 0 ∨ i = 1 := by omega
        · exact ⟨32, rfl, by decide⟩
        · exact ⟨45, rfl, by decide⟩
      have hnx := fun ty => run_next_ascii (P := Tryd.prog) w sp2 i ty hi (by rw [hx]; exact hx2)
      rw [hx] at hnx
      have e1 : ((x.toNat : Int) == 65533) = false := by simp; omega
      go_wp2
      go_roundg g
      case measure => omega
      case rel => exact ⟨i + 1, by omega, rfl⟩

theorem indexRune_c (c : Nat) (hc : scalN c) (h : 128 ≤ c) {w : World} {K : KSet} (hk : KOk w K) : Calls Tryd.prog 86 #[.string sp2, .int .i32 (c : Int)] w fun e w' => e = .returned (.int .i64 (-1)) ∧ Below w.heap.size w w' := by
  by_cases hx : c = 65533
  · subst hx; exact indexRune_bad w
  · have hD : DCalls Tryd.prog 86 [dv (ls sp2), dv (.lit (.int .i32 (c : Int)))] (dv (li (-1))) := by
      rcases Nat.lt_or_ge c 2048 with h2 | h2
      · exact indexRune2_D c hc h h2
      · exact indexRune3_D c hc h2 hx
    refine calls_lit hD hk rfl ?_
    intro j d v h1 h2
    match j with
    | 0 => simp at h1 h2; subst h1; subst h2; exact .one _ _ (.c _ _ (.lit _ rfl))
    | 1 => simp at h1 h2; subst h1; subst h2; exact .one _ _ (.c _ _ (.lit _ rfl))
    | _ + 2 => simp at h1

set_option maxHeartbeats 8000000 in
set_option maxRecDepth 1000000 in
theorem indexAny_short (s : ByteArray) (hs : s.size ≤ 8) (hok : (ptsL s.data.toList).isSome = true) {w : World} {K : KSet} (hk : KOk w K) :
    Calls Tryd.prog 65 #[.string s, .string sp2] w fun e w' => e = .returned (.int .i64 (Go.Lib.indexAny s.data.toList sp2.data.toList)) ∧ Below w.heap.size w w' := by
  have hemp : sp2.toList.isEmpty = false := by rw [Go.Lib.toList_data]; rfl
  have hn1 : ((sp2.size : Int) == 1) = false := by decide
  have h8z : decide ((8 : Int) < (s.size : Int)) = false := decide_eq_false (by omega)
  go_enter Tryd.func65, Tryd.ntmps65
  go_wp2_with (go_at_call 87; refine (Any.strings_shouldUseASCIISet { Tryd.laysC with } _ _).mono ?_; rintro e w' ⟨rfl, hw⟩; rw [hw, h8z])
  go_loopg [9, 10] s.size (fun g _ _ wx => ∃ i : Nat, i + g = s.size ∧ wx.heap[w.heap.size]? = some (.stringIter s i) ∧ Below w.heap.size w wx ∧ noSp s i ∧ (ptsL (s.data.toList.drop i)).isSome = true)
  case atStart => exact ⟨0, by omega, World.iter_heap w s 0, (Below.refl _ w).alloc (Nat.le_refl _) _, Go.Lib.NoAny.zero _ _, hok⟩
  case round =>
    obtain ⟨i, hig, hh, hbl, hno, hok2⟩ := hrel
    have HN : Aside (noSp s i) := hno
    have HV : Aside ((ptsL (s.data.toList.drop i)).isSome = true) := hok2
    have HK : Aside (KOk w K) := hk
    clear hno hok2 hok
    by_cases hi : i < s.size
    · have hnx := fun ty => Go.Lib.run_next_any_at (P := Tryd.prog) wr w.heap.size s i ty hh hi
      obtain ⟨r1, r2, r3, r4, r5⟩ := rune_step hi HV.out
      have hh1 := Go.Lib.iterAt_heap wr w.heap.size s i (i + (Utf8.decode s i).2) hh
      have hb1 : Below w.heap.size w (wr.iterAt w.heap.size s (i + (Utf8.decode s i).2)) := Go.Lib.below_iterAt hbl (Nat.le_refl _) s _
      have hk1 : KOk (wr.iterAt w.heap.size s (i + (Utf8.decode s i).2)) K := below_kok HK.out hb1
      generalize wr.iterAt w.heap.size s (i + (Utf8.decode s i).2) = W1 at hnx hh1 hb1 hk1
      obtain ⟨c, hc⟩ : ∃ c, (Utf8.decode s i).1 = c := ⟨_, rfl⟩
      obtain ⟨k, hk⟩ : ∃ k, (Utf8.decode s i).2 = k := ⟨_, rfl⟩
      rw [hc] at hnx r1 r5
      rw [hk] at hh1 r2 r3 r4 r5
      clear hc hk
      have HK1 : Aside (KOk W1 K) := hk1
      have H2 : Aside ((ptsL (s.data.toList.drop (i + k))).isSome = true) := r2
      have H4 : Aside (i + k ≤ s.size) := r4
      have H3 : Aside (1 ≤ k) := r3
      have H1 : Aside (scalN c) := r1
      clear hk1 r1 r2 r3 r4
      rcases r5 with ⟨r6, r7, r8⟩ | ⟨r6, r7⟩
      · have hback : ((c : Int)).toNat.toUInt8 = UInt8.ofNat c := by simp
        have Hx : Aside (s.data.toList[i]? = some (UInt8.ofNat c)) := r8
        clear r8
        have hcon := Go.Lib.contains_iff_indexByte sp2.data.toList (UInt8.ofNat c)
        cases hin : sp2.data.toList.contains (UInt8.ofNat c)
        · rw [hin] at hcon
          have hlt : ¬ ((0 : Int) ≤ Go.Lib.indexByte sp2.data.toList (UInt8.ofNat c)) := of_decide_eq_false hcon.symm
          clear hcon
          go_wp2_with (go_at_call 86; refine (Any.strings_IndexRune_ascii { Tryd.laysC with } _ _ _ (by omega) (by omega)).mono ?_; rintro e w' ⟨rfl, hw⟩; rw [hw, hback])
          go_roundg (s.size - (i + k))
          case measure => have := H3.out; have := H4.out; omega
          case rel =>
            subst r7
            exact ⟨i + 1, by have := H4.out; omega, hh1, hb1, HN.out.succ Hx.out hin, H2.out⟩
        · rw [hin] at hcon
          have hge : (0 : Int) ≤ Go.Lib.indexByte sp2.data.toList (UInt8.ofNat c) := of_decide_eq_true hcon.symm
          clear hcon
          go_wp2_with (go_at_call 86; refine (Any.strings_IndexRune_ascii { Tryd.laysC with } _ _ _ (by omega) (by omega)).mono ?_; rintro e w' ⟨rfl, hw⟩; rw [hw, hback])
          go_ret
          exact ⟨by rw [Go.Lib.indexAny_hit HN.out Hx.out hin]; rfl, hb1⟩
      · have H7 : Aside (∀ j, i ≤ j → j < i + k → ∀ b, s.data.toList[j]? = some b → 128 ≤ b.toNat) := r7
        clear r7
        have hsz1 : w.heap.size < W1.heap.size := (Array.getElem?_eq_some_iff.1 hh1).1
        go_wp2_with (go_at_call 86; refine (indexRune_c c H1.out r6 HK1.out).mono ?_; rintro e W2 ⟨rfl, hb2⟩)
        have hh2 : W2.heap[w.heap.size]? = some (.stringIter s (i + k)) := (hb2.block _ hsz1).trans hh1
        have hb3 : Below w.heap.size w W2 := hb1.trans (hb2.mono (by omega))
        go_wp2
        go_roundg (s.size - (i + k))
        case measure => have := H3.out; have := H4.out; omega
        case rel =>
          refine ⟨i + k, by have := H4.out; omega, hh2, hb3, fun j b hj hb => ?_, H2.out⟩
          rcases Nat.lt_or_ge j i with h | h
          · exact HN.out j b h hb
          · exact sp2_no (H7.out j h hj b hb)
    · have hnx := fun ty => Go.Lib.run_next_end_at (P := Tryd.prog) wr w.heap.size s i ty hh hi
      go_wp2
      go_ret
      have : i = s.data.toList.length := by simp; omega
      subst this
      exact ⟨by rw [Go.Lib.indexAny_none HN.out]; rfl, hbl⟩

theorem sp2_ascii (j : Nat) (b : UInt8) (h : sp2.data.toList[j]? = some b) : b.toNat < 128 := by
  match j with
  | 0 => have : b = 32 := by injection h with h; exact h.symm
         subst this; decide
  | 1 => have : b = 45 := by injection h with h; exact h.symm
         subst this; decide
  | _ + 2 => cases h
theorem two_args {P : Program} {vs : Array Value} {w : World} {E : Env} {a b : Value} (hl : vs.size = 2) (hv : ∀ (j : Nat) d v, [dv (.lit a), dv (.lit b)][j]? = some d → vs[j]? = some v → VD w E d v) : vs = #[a, b] := by
  obtain ⟨x, y, rfl⟩ : ∃ x y, vs = #[x, y] := by
    rcases vs with ⟨l⟩
    match l, hl with
    | [x, y], _ => exact ⟨x, y, rfl⟩
  rw [(hv 0 _ x rfl rfl).lit, (hv 1 _ y rfl rfl).lit]

theorem indexAny_D (s : ByteArray) (hok : okS s = true) (hs : s.size ≤ 32) : DCalls Tryd.prog 65 [dv (ls s), dv (ls sp2)] (dv (li (Go.Lib.indexAny s.data.toList sp2.data.toList))) := by
  refine dcalls_below (by kernel_rfl) rfl fun w K vs hk hl hv => ?_
  have := two_args (P := Tryd.prog) hl hv
  subst this
  by_cases h : s.size ≤ 8
  · exact indexAny_short s h (by rw [pts_valid]; exact hok) hk
  · have h116 : (Tryd.prog.info? (Tryd.laysC_ren.t 116)).map (fun i => (i.zero, i.size)) = some (some (Value.agg (Array.replicate 256 (.bool false))), 256) := by kernel_rfl
    refine (Any.strings_IndexAny_long { Tryd.laysC with } (zero_of_info h116).1 (zero_of_info h116).2 s sp2 w (Nat.le_refl 2) (by omega) (by omega) (by decide) sp2_ascii).mono ?_
    rintro e w1 ⟨rfl, rfl⟩
    exact ⟨rfl, ((Below.refl _ w).alloc (Nat.le_refl _) _).alloc (by simp) _⟩

theorem indexAny_sp (s : ByteArray) : decide ((0 : Int) ≤ Go.Lib.indexAny s.data.toList sp2.data.toList) = spB s := by
  unfold spB
  generalize s.data.toList = l
  induction l with
  | nil => rfl
  | cons b l ih =>
    have h1 := Go.Lib.indexAny_ge sp2.data.toList l
    rw [List.any_cons, ← ih, Go.Lib.indexAny]
    have hc : sp2.data.toList.contains b = (((b.toNat : Nat) : Int) == 32 || ((b.toNat : Nat) : Int) == 45) := by
      have e1 : (b == 32) = (((b.toNat : Nat) : Int) == 32) := by rw [Bool.eq_iff_iff, beq_iff_eq, beq_iff_eq, ← UInt8.toNat_inj]; simp; omega
      have e2 : (b == 45) = (((b.toNat : Nat) : Int) == 45) := by rw [Bool.eq_iff_iff, beq_iff_eq, beq_iff_eq, ← UInt8.toNat_inj]; simp; omega
      show List.contains [32, 45] b = _
      rw [List.contains_cons, List.contains_cons, e1, e2]; simp
    rw [hc]
    cases (((b.toNat : Nat) : Int) == 32 || ((b.toNat : Nat) : Int) == 45)
    · by_cases h2 : Go.Lib.indexAny l sp2.data.toList = -1
      · simp [h2]
      · have h3 : (Go.Lib.indexAny l sp2.data.toList == -1) = false := beq_eq_false_iff_ne.2 h2
        rw [h3]
        simp only [Bool.false_or, if_false, Bool.false_eq_true]
        congr 1
        exact propext ⟨fun h => by omega, fun h => by omega⟩
    · simp

--F32
set_option maxRecDepth 10000 in
theorem containsAny_D (s : ByteArray) (hok : okS s = true) (hs : s.size ≤ 32) : DCalls Tryd.prog 32 [dv (ls s), dv (ls sp2)] (dv (lb (spB s))) := by
  have := indexAny_sp s
  refine dcalls (N := 9) (rs := [.tmp 4]) (by kernel_rfl) Tryd.func32 rfl rfl rfl (by simp) ?_
  (repeat' (first | (refine dw_seq ?_) | (refine dw_block ?_) | ((first | (refine dw_reg (N := 9) rfl (by kernel_rfl) ?_) | (refine dw_skip ?_) | (refine dw_exit ?_) | (refine CallC.mk (indexAny_D s hok hs) (LeL.of_eq rfl) ?_) | (refine CallC.light (indexAny_D s hok hs) (LeL.of_eq rfl) ?_) | (refine dw_ret ?_)); simp (decide := true) only [go_sem, reduceIte, reduceCtorEq, jA, jB, jC, jD, jE, jF, this]) | (apply dw_cond; (simp (decide := true) only [go_sem, reduceIte, reduceCtorEq, jA, jB, jC, jD, jE, jF, this]; rfl); all_goals (intro hcnd; first | (exact absurd hcnd (by decide)) | skip)) | ((first | refine guardC_f ?_ ?_ | refine guardC_t ?_ ?_) <;> (intro hcnd; simp (decide := true) only [go_sem, reduceIte, reduceCtorEq, jA, jB, jC, jD, jE, jF, hcnd, this]))))

--F12
set_option maxRecDepth 10000 in
theorem gloss_D (s : ByteArray) : DCalls Tryd.prog 12 [dv (ls s)] (dv (lb (glossB s))) := by
  have hmax : maxLen = 9223372036854775807 := rfl
  refine dcalls (N := 10) (rs := [.tmp 2]) (by kernel_rfl) Tryd.func12 rfl rfl rfl (by simp) ?_
  cases hl : labelB s
  · have hL := label_D s
    rw [hl] at hL
    (repeat' (first | (refine dw_seq ?_) | (refine dw_block ?_) | ((first | (refine dw_reg (N := 10) rfl (by kernel_rfl) ?_) | (refine dw_skip ?_) | (refine dw_exit ?_) | (refine CallC.mk (hL) (LeL.of_eq rfl) ?_) | (refine CallC.light (hL) (LeL.of_eq rfl) ?_) | (refine dw_ret ?_)); simp (decide := true) only [go_sem, reduceIte, reduceCtorEq, jA, jB, jC, jD, jE, jF]) | (apply dw_cond; (simp (decide := true) only [go_sem, reduceIte, reduceCtorEq, jA, jB, jC, jD, jE, jF]; rfl); all_goals (intro hcnd; first | (exact absurd hcnd (by decide)) | skip)) | ((first | refine guardC_f ?_ ?_ | refine guardC_t ?_ ?_) <;> (intro hcnd; simp (decide := true) only [go_sem, reduceIte, reduceCtorEq, jA, jB, jC, jD, jE, jF, hcnd]))))
    simp [glossB, hl]
  · have hL := label_D s
    rw [hl] at hL
    have hok : okS s = true := by simp only [labelB, Bool.and_eq_true] at hl; simp_all
    have hs : s.size ≤ 32 := by simp only [labelB, Bool.and_eq_true] at hl; simp_all; omega
    (repeat' (first | (refine dw_seq ?_) | (refine dw_block ?_) | ((first | (refine dw_reg (N := 10) rfl (by kernel_rfl) ?_) | (refine dw_skip ?_) | (refine dw_exit ?_) | (refine CallC.mk (hL) (LeL.of_eq rfl) ?_) | (refine CallC.light (hL) (LeL.of_eq rfl) ?_) | (refine CallC.mk (containsAny_D s hok hs) (LeL.of_eq rfl) ?_) | (refine CallC.light (containsAny_D s hok hs) (LeL.of_eq rfl) ?_) | (refine dw_ret ?_)); simp (decide := true) only [go_sem, reduceIte, reduceCtorEq, jA, jB, jC, jD, jE, jF]) | (apply dw_cond; (simp (decide := true) only [go_sem, reduceIte, reduceCtorEq, jA, jB, jC, jD, jE, jF]; rfl); all_goals (intro hcnd; first | (exact absurd hcnd (by decide)) | skip)) | ((first | refine guardC_f ?_ ?_ | refine guardC_t ?_ ?_) <;> (intro hcnd; simp (decide := true) only [go_sem, reduceIte, reduceCtorEq, jA, jB, jC, jD, jE, jF, hcnd]))))
    simp [glossB, hl]
end Go.Proofs.YtiaamlaibfpdgaaDoor

namespace Go.Proofs.YtiaamlaibfpdgaaDoor
abbrev kpm1 : List (Nat × Go.Dl.Mode) := [(0, .light), (1, .light), (2, .light), (3, .light), (4, .light), (5, .step), (6, .light)]
abbrev kpm2 : List (Nat × Go.Dl.Mode) := [(0, .light), (1, .light), (2, .light), (3, .light), (4, .light), (5, .light), (6, .light), (7, .light), (8, .light), (9, .light), (10, .light), (11, .light), (12, .light)]
end Go.Proofs.YtiaamlaibfpdgaaDoor
/- Entries: words; inventories. -/
namespace Go.Proofs.YtiaamlaibfpdgaaDoor
open Go.Dl
open Go.Dl renaming dw_seq → kA, dw_block → kB, dw_reg → kC, dw_skip → kD, dw_exit → kE, dw_ret → kF, dw_cond → kG, guardC_f → kH, guardC_t → kI, dw_drw → kJ, dw_weaken → kK, sub_kn → kL, sub_ml → kM
open Go.Dl.CallC renaming mk → kN, light → kO
open Go.Dl.LeL renaming of_eq → kP
attribute [local irreducible] DW DCalls ECalls wk IW

def wordE (g : List Phon) (xs : List Int) : Int := if xs.length = 0 then 4 else if 24 < xs.length then 5 else if xs.any (fun n => !segOk g n) then 19 else 0

set_option maxRecDepth 10000 in
theorem word1_D (g : List Phon) (n : Int) : DCalls Tryd.prog 94 [dv (li n), dv (.pt [.sl 2 (g.map Phon.enc)])] (dv (lb (!segOk g n))) := by
  have hc := seg_D g n
  simp only [invRow] at hc
  refine dcalls (N := 8) (rs := [.tmp 3]) (by kernel_rfl) Tryd.func94 rfl rfl rfl (by simp) ?_
  (repeat' (first | refine kA ?_ | refine kB ?_ | ((first | (refine kC (N := 8) rfl (by kernel_rfl) ?_) | refine kD ?_ | refine kE ?_ | (refine kN (hc) (kP rfl) ?_) | (refine kO (hc) (kP rfl) ?_) | refine kF ?_); simp (decide := true) only [go_sem, reduceIte, reduceCtorEq, jA, jB, jC, jD, jE, jF]) | (apply kG; (simp (decide := true) only [go_sem, reduceIte, reduceCtorEq, jA, jB, jC, jD, jE, jF]; rfl); all_goals (intro hcnd; first | (exact absurd hcnd (by decide)) | skip))))

set_option maxRecDepth 10000 in
set_option maxHeartbeats 2000000 in
theorem idxW_D (g : List Phon) (xs : List Int) (hl : xs.length ≤ 1000000) : DCalls Tryd.prog 107 [dv (.sl 1 (ints xs)), dv (.fn 94 [.pt [.sl 2 (g.map Phon.enc)]])] (dv (li (idxF (fun n => !segOk g n) xs))) := by
  have hmax : maxLen = 9223372036854775807 := rfl
  refine dcalls (N := 19) (rs := [.tmp 4]) (by kernel_rfl) Tryd.func107 rfl rfl rfl (by simp) ?_
  (repeat (first | refine kA ?_ | refine kB ?_ | ((first | (refine kC (N := 19) rfl (by kernel_rfl) ?_) | refine kD ?_ | refine kE ?_); simp (decide := true) only [go_sem, reduceIte, reduceCtorEq, jA, jB, jC, jD, jE, jF])))
  refine dw_rngI xs (fun k => kn 19 [(0, dv (.sl 1 (ints xs))), (1, dv (.fn 94 [.pt [.sl 2 (g.map Phon.enc)]])), (7, dv (li xs.length)), (8, dv (li k))] noMem) (fun k => ∀ e ∈ xs.take k, (!segOk g e) = false) (by omega) (kL rfl (by simp (decide := true) only [go_sem, reduceIte, reduceCtorEq, jA, jB, jC, jD, jE, jF]) (by simp [noMem])) (by simp) ?_ ?_
  · intro k e he hk hm htk hlt hw hi
    have hc := word1_D g e
    have ha := ints_at he
    (repeat' (first | refine kA ?_ | refine kB ?_ | ((first | (refine kC (N := 19) rfl (by kernel_rfl) ?_) | refine kD ?_ | refine kE ?_ | (refine kN (hc) (kP rfl) ?_) | (refine kO (hc) (kP rfl) ?_) | refine kF ?_); simp (decide := true) only [go_sem, reduceIte, reduceCtorEq, jA, jB, jC, jD, jE, jF, hlt, hw, ha]) | (apply kG; (simp (decide := true) only [go_sem, reduceIte, reduceCtorEq, jA, jB, jC, jD, jE, jF, hlt, hw, ha]; rfl); all_goals (intro hcnd; first | (exact absurd hcnd (by decide)) | skip))))
    · rw [idxF_at he hi hcnd]
    · exact ⟨forall_snoc htk hi hcnd, kL rfl (by simp (decide := true) only [go_sem, reduceIte, reduceCtorEq, jA, jB, jC, jD, jE, jF]) (by simp [noMem])⟩
  · intro hlt hi
    rw [List.take_length] at hi
    (repeat' (first | refine kA ?_ | refine kB ?_ | ((first | (refine kC (N := 19) rfl (by kernel_rfl) ?_) | refine kD ?_ | refine kE ?_ | refine kF ?_); simp (decide := true) only [go_sem, reduceIte, reduceCtorEq, jA, jB, jC, jD, jE, jF, hlt]) | (apply kG; (simp (decide := true) only [go_sem, reduceIte, reduceCtorEq, jA, jB, jC, jD, jE, jF, hlt]; rfl); all_goals (intro hcnd; first | (exact absurd hcnd (by decide)) | skip))))
    rw [idxF_no hi]

set_option maxRecDepth 10000 in
theorem conW_D (g : List Phon) (xs : List Int) (hl : xs.length ≤ 1000000) : DCalls Tryd.prog 93 [dv (.sl 1 (ints xs)), dv (.fn 94 [.pt [.sl 2 (g.map Phon.enc)]])] (dv (lb (xs.any fun n => !segOk g n))) := by
  refine dcalls (N := 9) (rs := [.tmp 4]) (by kernel_rfl) Tryd.func93 rfl rfl rfl (by simp) ?_
  (repeat' (first | refine kA ?_ | refine kB ?_ | ((first | (refine kC (N := 9) rfl (by kernel_rfl) ?_) | refine kD ?_ | refine kE ?_ | (refine kN (idxW_D g xs hl) (kP rfl) ?_) | (refine kO (idxW_D g xs hl) (kP rfl) ?_) | refine kF ?_); simp (decide := true) only [go_sem, reduceIte, reduceCtorEq, jA, jB, jC, jD, jE, jF, idxF_any]) | (apply kG; (simp (decide := true) only [go_sem, reduceIte, reduceCtorEq, jA, jB, jC, jD, jE, jF, idxF_any]; rfl); all_goals (intro hcnd; first | (exact absurd hcnd (by decide)) | skip))))

set_option maxRecDepth 10000 in
set_option maxHeartbeats 2000000 in
theorem word_D (g : List Phon) (xs : List Int) : DCalls Tryd.prog 70 [.agg (invRow g), dv (.sl 1 (ints xs))] (dv (li (wordE g xs))) := by
  refine dcalls (N := 17) (rs := [.tmp 4]) (by kernel_rfl) Tryd.func70 rfl rfl rfl (by simp) ?_
  rcases Bool.eq_false_or_eq_true ((xs.length : Int) == 0) with t1 | t1
  · have n1 : xs.length = 0 := by have := beq_iff_eq.1 t1; omega
    (repeat' (first | refine kA ?_ | refine kB ?_ | ((first | (refine kC (N := 17) rfl (by kernel_rfl) ?_) | refine kD ?_ | refine kE ?_ | refine kF ?_); simp (decide := true) only [go_sem, reduceIte, reduceCtorEq, jA, jB, jC, jD, jE, jF, invRow, t1]) | (apply kG; (simp (decide := true) only [go_sem, reduceIte, reduceCtorEq, jA, jB, jC, jD, jE, jF, invRow, t1]; rfl); all_goals (intro hcnd; first | (exact absurd hcnd (by decide)) | skip))))
    rw [wordE, if_pos n1]
  have n1 : ¬ xs.length = 0 := by have := beq_eq_false_iff_ne.1 t1; omega
  rcases Bool.eq_false_or_eq_true (decide ((24 : Int) < (xs.length : Int))) with t2 | t2
  · have n2 : 24 < xs.length := by have := of_decide_eq_true t2; omega
    (repeat' (first | refine kA ?_ | refine kB ?_ | ((first | (refine kC (N := 17) rfl (by kernel_rfl) ?_) | refine kD ?_ | refine kE ?_ | refine kF ?_); simp (decide := true) only [go_sem, reduceIte, reduceCtorEq, jA, jB, jC, jD, jE, jF, invRow, t1, t2]) | (apply kG; (simp (decide := true) only [go_sem, reduceIte, reduceCtorEq, jA, jB, jC, jD, jE, jF, invRow, t1, t2]; rfl); all_goals (intro hcnd; first | (exact absurd hcnd (by decide)) | skip))))
    rw [wordE, if_neg n1, if_pos n2]
  have n2 : ¬ 24 < xs.length := by have := of_decide_eq_false t2; omega
  (repeat' (first | refine kA ?_ | refine kB ?_ | ((first | (refine kC (N := 17) rfl (by kernel_rfl) ?_) | refine kD ?_ | refine kE ?_); simp (decide := true) only [go_sem, reduceIte, reduceCtorEq, jA, jB, jC, jD, jE, jF, invRow, t1, t2]) | (apply kG; (simp (decide := true) only [go_sem, reduceIte, reduceCtorEq, jA, jB, jC, jD, jE, jF, invRow, t1, t2]; rfl); all_goals (intro hcnd; first | (exact absurd hcnd (by decide)) | skip))))
  refine CallC.frz 2 [.sl 2 (g.map Phon.enc)] (by simp) (by simp (decide := true) only [go_sem, reduceIte, reduceCtorEq, jA, jB, jC, jD, jE, jF]) ?_
  simp (decide := true) only [go_sem, reduceIte, reduceCtorEq, jA, jB, jC, jD, jE, jF]
  (first | (refine kN (conW_D g xs (by omega)) (kP rfl) ?_) | (refine kO (conW_D g xs (by omega)) (kP rfl) ?_)); simp (decide := true) only [go_sem, reduceIte, reduceCtorEq, jA, jB, jC, jD, jE, jF]
  cases t3 : xs.any fun n => !segOk g n <;> (repeat' (first | refine kA ?_ | refine kB ?_ | ((first | (refine kC (N := 17) rfl (by kernel_rfl) ?_) | refine kD ?_ | refine kE ?_ | refine kF ?_); simp (decide := true) only [go_sem, reduceIte, reduceCtorEq, jA, jB, jC, jD, jE, jF, t3]) | (apply kG; (simp (decide := true) only [go_sem, reduceIte, reduceCtorEq, jA, jB, jC, jD, jE, jF, t3]; rfl); all_goals (intro hcnd; first | (exact absurd hcnd (by decide)) | skip)))) <;> simp only [wordE, if_neg n1, if_neg n2, t3] <;> rfl

set_option maxRecDepth 10000 in
set_option maxHeartbeats 2000000 in
theorem rWord_D (g : List Phon) (xs : List Int) : DCalls Tryd.prog 75 [.agg (invRow g), dv (.sl 1 (ints xs))] (dv (li (wordE g xs))) := by
  have hmax : maxLen = 9223372036854775807 := rfl
  refine dcalls (N := 25) (rs := [.tmp 4]) (by kernel_rfl) Tryd.func75 rfl rfl rfl (by simp) ?_
  rcases Bool.eq_false_or_eq_true ((xs.length : Int) == 0) with t1 | t1
  · have n1 : xs.length = 0 := by have := beq_iff_eq.1 t1; omega
    (repeat' (first | refine kA ?_ | refine kB ?_ | ((first | (refine kC (N := 25) rfl (by kernel_rfl) ?_) | (apply kJ (id := 8) (N := 25) kpm1; kernel_rfl; rfl; kernel_rfl; (repeat (first | exact Picks.nil | (apply Picks.cons; rfl)))) | refine kD ?_ | refine kE ?_ | refine kF ?_); simp (decide := true) only [go_sem, reduceIte, reduceCtorEq, jA, jB, jC, jD, jE, jF, invRow, t1]) | (apply kG; (simp (decide := true) only [go_sem, reduceIte, reduceCtorEq, jA, jB, jC, jD, jE, jF, invRow, t1]; rfl); all_goals (intro hcnd; first | (exact absurd hcnd (by decide)) | skip))))
    rw [wordE, if_pos n1]
  have n1 : ¬ xs.length = 0 := by have := beq_eq_false_iff_ne.1 t1; omega
  rcases Bool.eq_false_or_eq_true (decide ((24 : Int) < (xs.length : Int))) with t2 | t2
  · have n2 : 24 < xs.length := by have := of_decide_eq_true t2; omega
    (repeat' (first | refine kA ?_ | refine kB ?_ | ((first | (refine kC (N := 25) rfl (by kernel_rfl) ?_) | (apply kJ (id := 8) (N := 25) kpm1; kernel_rfl; rfl; kernel_rfl; (repeat (first | exact Picks.nil | (apply Picks.cons; rfl)))) | refine kD ?_ | refine kE ?_ | refine kF ?_); simp (decide := true) only [go_sem, reduceIte, reduceCtorEq, jA, jB, jC, jD, jE, jF, invRow, t1, t2]) | (apply kG; (simp (decide := true) only [go_sem, reduceIte, reduceCtorEq, jA, jB, jC, jD, jE, jF, invRow, t1, t2]; rfl); all_goals (intro hcnd; first | (exact absurd hcnd (by decide)) | skip))))
    rw [wordE, if_neg n1, if_pos n2]
  have n2 : ¬ 24 < xs.length := by have := of_decide_eq_false t2; omega
  (repeat' (first | refine kA ?_ | refine kB ?_ | ((first | (refine kC (N := 25) rfl (by kernel_rfl) ?_) | (apply kJ (id := 8) (N := 25) kpm1; kernel_rfl; rfl; kernel_rfl; (repeat (first | exact Picks.nil | (apply Picks.cons; rfl)))) | refine kD ?_ | refine kE ?_); simp (decide := true) only [go_sem, reduceIte, reduceCtorEq, jA, jB, jC, jD, jE, jF, invRow, t1, t2]) | (apply kG; (simp (decide := true) only [go_sem, reduceIte, reduceCtorEq, jA, jB, jC, jD, jE, jF, invRow, t1, t2]; rfl); all_goals (intro hcnd; first | (exact absurd hcnd (by decide)) | skip))))
  refine dw_rngI xs (fun k => kn 25 [(1, dv (.sl 1 (ints xs))), (2, .one (.bx 2 1 0 0)), (13, dv (li xs.length)), (14, dv (li k))] (ml [(2, [invRow g])])) (fun k => ∀ e ∈ xs.take k, (!segOk g e) = false) (by omega) (kM rfl (by simp (decide := true) only [go_sem, reduceIte, reduceCtorEq, jA, jB, jC, jD, jE, jF]) (by simp (decide := true) only [go_sem, reduceIte, reduceCtorEq, jA, jB, jC, jD, jE, jF, invRow])) (by simp) ?_ ?_
  · intro k e he hk hm htk hlt hw hi
    have hc := rIs_D g e
    have ha := ints_at he
    simp only [invRow] at hc
    cases t3 : segOk g e
    · rw [t3] at hc
      have hB : (xs.any fun n => !segOk g n) = true := any_at he (by rw [t3]; rfl)
      (repeat' (first | refine kA ?_ | refine kB ?_ | ((first | (refine kC (N := 25) rfl (by kernel_rfl) ?_) | (apply kJ (id := 8) (N := 25) kpm1; kernel_rfl; rfl; kernel_rfl; (repeat (first | exact Picks.nil | (apply Picks.cons; rfl)))) | refine kD ?_ | refine kE ?_ | (refine kN (hc) (kP rfl) ?_) | (refine kO (hc) (kP rfl) ?_) | refine kF ?_); simp (decide := true) only [go_sem, reduceIte, reduceCtorEq, jA, jB, jC, jD, jE, jF, hlt, hw, ha, invRow]) | (apply kG; (simp (decide := true) only [go_sem, reduceIte, reduceCtorEq, jA, jB, jC, jD, jE, jF, hlt, hw, ha, invRow]; rfl); all_goals (intro hcnd; first | (exact absurd hcnd (by decide)) | skip))))
      rw [wordE, if_neg n1, if_neg n2, hB]; rfl
    · rw [t3] at hc
      (repeat' (first | refine kA ?_ | refine kB ?_ | ((first | (refine kC (N := 25) rfl (by kernel_rfl) ?_) | (apply kJ (id := 8) (N := 25) kpm1; kernel_rfl; rfl; kernel_rfl; (repeat (first | exact Picks.nil | (apply Picks.cons; rfl)))) | refine kD ?_ | refine kE ?_ | (refine kN (hc) (kP rfl) ?_) | (refine kO (hc) (kP rfl) ?_) | refine kF ?_); simp (decide := true) only [go_sem, reduceIte, reduceCtorEq, jA, jB, jC, jD, jE, jF, hlt, hw, ha, invRow]) | (apply kG; (simp (decide := true) only [go_sem, reduceIte, reduceCtorEq, jA, jB, jC, jD, jE, jF, hlt, hw, ha, invRow]; rfl); all_goals (intro hcnd; first | (exact absurd hcnd (by decide)) | skip))))
      exact ⟨forall_snoc htk hi (by rw [t3]; rfl), kM rfl (by simp (decide := true) only [go_sem, reduceIte, reduceCtorEq, jA, jB, jC, jD, jE, jF]) (by simp (decide := true) only [go_sem, reduceIte, reduceCtorEq, jA, jB, jC, jD, jE, jF, invRow])⟩
  · intro hlt hi
    have hB : (xs.any fun n => !segOk g n) = false := any_take_no hi
    (repeat' (first | refine kA ?_ | refine kB ?_ | ((first | (refine kC (N := 25) rfl (by kernel_rfl) ?_) | (apply kJ (id := 8) (N := 25) kpm1; kernel_rfl; rfl; kernel_rfl; (repeat (first | exact Picks.nil | (apply Picks.cons; rfl)))) | refine kD ?_ | refine kE ?_ | refine kF ?_); simp (decide := true) only [go_sem, reduceIte, reduceCtorEq, jA, jB, jC, jD, jE, jF, hlt]) | (apply kG; (simp (decide := true) only [go_sem, reduceIte, reduceCtorEq, jA, jB, jC, jD, jE, jF, hlt]; rfl); all_goals (intro hcnd; first | (exact absurd hcnd (by decide)) | skip))))
    rw [wordE, if_neg n1, if_neg n2, hB]; rfl

def chkI (seen : List ByteArray) : List Phon → Int
  | [] => 0
  | p :: l => if labelB p.name = false then 7 else if seen.any (fun s => s == p.name) then 8 else if p.feat < 0 ∨ 65536 ≤ p.feat then 2 else chkI (seen ++ [p.name]) l
def checkI (g : List Phon) : Int := if 60 < g.length then 11 else chkI [] g

theorem drop_at {α : Type} {l : List α} {k : Nat} {x : α} (h : l[k]? = some x) : l.drop k = x :: l.drop (k + 1) := by
  obtain ⟨hk, e⟩ := List.getElem?_eq_some_iff.1 h
  rw [List.drop_eq_getElem_cons hk, e]

set_option maxRecDepth 10000 in
set_option maxHeartbeats 4000000 in
theorem rCheckI_D (g : List Phon) (hg : ∀ p ∈ g, p.name.size ≤ 1048576) : DCalls Tryd.prog 38 [.agg (invRow g)] (dv (li (checkI g))) := by
  have hmax : maxLen = 9223372036854775807 := rfl
  refine dcalls (N := 58) (rs := [.tmp 2]) (by kernel_rfl) Tryd.func38 rfl rfl rfl (by simp) ?_
  rcases Bool.eq_false_or_eq_true (decide ((60 : Int) < (g.length : Int))) with t1 | t1
  · have n1 : 60 < g.length := by have := of_decide_eq_true t1; omega
    (repeat' (first | refine kA ?_ | refine kB ?_ | ((first | (refine kC (N := 58) rfl (by kernel_rfl) ?_) | (apply kJ (id := 11) (N := 58) kpm2; kernel_rfl; rfl; kernel_rfl; (repeat (first | exact Picks.nil | (apply Picks.cons; rfl)))) | refine kD ?_ | refine kE ?_ | refine kF ?_); simp (decide := true) only [go_sem, reduceIte, reduceCtorEq, jA, jB, jC, jD, jE, jF, invRow, t1]) | (apply kG; (simp (decide := true) only [go_sem, reduceIte, reduceCtorEq, jA, jB, jC, jD, jE, jF, invRow, t1]; rfl); all_goals (intro hcnd; first | (exact absurd hcnd (by decide)) | skip)) | ((first | refine kH ?_ ?_ | refine kI ?_ ?_) <;> (intro hcnd; simp (decide := true) only [go_sem, reduceIte, reduceCtorEq, jA, jB, jC, jD, jE, jF, hcnd, invRow, t1]))))
    rw [checkI, if_pos n1]
  have n1 : ¬ 60 < g.length := by have := of_decide_eq_false t1; omega
  (repeat' (first | refine kA ?_ | refine kB ?_ | ((first | (refine kC (N := 58) rfl (by kernel_rfl) ?_) | (apply kJ (id := 11) (N := 58) kpm2; kernel_rfl; rfl; kernel_rfl; (repeat (first | exact Picks.nil | (apply Picks.cons; rfl)))) | refine kD ?_ | refine kE ?_); simp (decide := true) only [go_sem, reduceIte, reduceCtorEq, jA, jB, jC, jD, jE, jF, invRow, t1]) | (apply kG; (simp (decide := true) only [go_sem, reduceIte, reduceCtorEq, jA, jB, jC, jD, jE, jF, invRow, t1]; rfl); all_goals (intro hcnd; first | (exact absurd hcnd (by decide)) | skip)) | ((first | refine kH ?_ ?_ | refine kI ?_ ?_) <;> (intro hcnd; simp (decide := true) only [go_sem, reduceIte, reduceCtorEq, jA, jB, jC, jD, jE, jF, hcnd, invRow, t1]))))
  refine dw_rngI g (fun k => kn 58 [(1, .one (.bx 1 1 0 0)), (11, dv (li g.length)), (12, dv (li k))] (ml [(1, [invRow g])])) (fun k => chkI ((g.take k).map (·.name)) (g.drop k) = checkI g) (by omega) (kM rfl (by simp (decide := true) only [go_sem, reduceIte, reduceCtorEq, jA, jB, jC, jD, jE, jF]) (by simp (decide := true) only [go_sem, reduceIte, reduceCtorEq, jA, jB, jC, jD, jE, jF, invRow])) (by simp [checkI, n1]) ?_ ?_
  · intro k p hp hk hm htk hlt hw hi
    rw [drop_at hp, chkI] at hi
    have hL := rLabel_D p.name (hg p hm)
    cases t2 : labelB p.name
    · rw [t2] at hL hi
      have hi' : checkI g = 7 := by rw [← hi]; rfl
      (repeat' (first | refine kA ?_ | refine kB ?_ | ((first | (refine kC (N := 58) rfl (by kernel_rfl) ?_) | (apply kJ (id := 11) (N := 58) kpm2; kernel_rfl; rfl; kernel_rfl; (repeat (first | exact Picks.nil | (apply Picks.cons; rfl)))) | refine kD ?_ | refine kE ?_ | (refine kN (hL) (kP rfl) ?_) | (refine kO (hL) (kP rfl) ?_) | refine kF ?_); simp (decide := true) only [go_sem, reduceIte, reduceCtorEq, jA, jB, jC, jD, jE, jF, hlt, hw, hp, invRow, Phon.enc]) | (apply kG; (simp (decide := true) only [go_sem, reduceIte, reduceCtorEq, jA, jB, jC, jD, jE, jF, hlt, hw, hp, invRow, Phon.enc]; rfl); all_goals (intro hcnd; first | (exact absurd hcnd (by decide)) | skip)) | ((first | refine kH ?_ ?_ | refine kI ?_ ?_) <;> (intro hcnd; simp (decide := true) only [go_sem, reduceIte, reduceCtorEq, jA, jB, jC, jD, jE, jF, hcnd, hlt, hw, hp, invRow, Phon.enc]))))
      rw [hi']
    rw [t2] at hL hi
    have hkl : (g.take k).length = k := by rw [List.length_take]; omega
    (repeat' (first | refine kA ?_ | refine kB ?_ | ((first | (refine kC (N := 58) rfl (by kernel_rfl) ?_) | (apply kJ (id := 11) (N := 58) kpm2; kernel_rfl; rfl; kernel_rfl; (repeat (first | exact Picks.nil | (apply Picks.cons; rfl)))) | refine kD ?_ | refine kE ?_ | (refine kN (hL) (kP rfl) ?_) | (refine kO (hL) (kP rfl) ?_)); simp (decide := true) only [go_sem, reduceIte, reduceCtorEq, jA, jB, jC, jD, jE, jF, hlt, hw, hp, invRow, Phon.enc]) | (apply kG; (simp (decide := true) only [go_sem, reduceIte, reduceCtorEq, jA, jB, jC, jD, jE, jF, hlt, hw, hp, invRow, Phon.enc]; rfl); all_goals (intro hcnd; first | (exact absurd hcnd (by decide)) | skip)) | ((first | refine kH ?_ ?_ | refine kI ?_ ?_) <;> (intro hcnd; simp (decide := true) only [go_sem, reduceIte, reduceCtorEq, jA, jB, jC, jD, jE, jF, hcnd, hlt, hw, hp, invRow, Phon.enc]))))
    refine dw_rngI (g.take k) (fun j => kn 58 [(1, .one (.bx 1 1 0 0)), (3, dv (li k)), (4, dv (li j)), (11, dv (li g.length)), (12, dv (li k))] (ml [(1, [invRow g])])) (fun j => ∀ e ∈ (g.take k).take j, (e.name == p.name) = false) (by omega) (kM rfl (by simp (decide := true) only [go_sem, reduceIte, reduceCtorEq, jA, jB, jC, jD, jE, jF]) (by simp (decide := true) only [go_sem, reduceIte, reduceCtorEq, jA, jB, jC, jD, jE, jF, invRow])) (by simp) ?_ ?_
    · intro j q hq hjk hjm hjt hjlt hjw hji
      rw [hkl] at hjlt hjk
      have hgq : g[j]? = some q := by rw [List.getElem?_take, if_pos hjk] at hq; exact hq
      cases t3 : (q.name == p.name)
      · (repeat' (first | refine kA ?_ | refine kB ?_ | ((first | (refine kC (N := 58) rfl (by kernel_rfl) ?_) | (apply kJ (id := 11) (N := 58) kpm2; kernel_rfl; rfl; kernel_rfl; (repeat (first | exact Picks.nil | (apply Picks.cons; rfl)))) | refine kD ?_ | refine kE ?_ | refine kF ?_); simp (decide := true) only [go_sem, reduceIte, reduceCtorEq, jA, jB, jC, jD, jE, jF, hjlt, hjw, hp, hgq, t3, invRow, Phon.enc]) | (apply kG; (simp (decide := true) only [go_sem, reduceIte, reduceCtorEq, jA, jB, jC, jD, jE, jF, hjlt, hjw, hp, hgq, t3, invRow, Phon.enc]; rfl); all_goals (intro hcnd; first | (exact absurd hcnd (by decide)) | skip)) | ((first | refine kH ?_ ?_ | refine kI ?_ ?_) <;> (intro hcnd; simp (decide := true) only [go_sem, reduceIte, reduceCtorEq, jA, jB, jC, jD, jE, jF, hcnd, hjlt, hjw, hp, hgq, t3, invRow, Phon.enc]))))
        exact ⟨forall_snoc hjt hji t3, kM rfl (by simp (decide := true) only [go_sem, reduceIte, reduceCtorEq, jA, jB, jC, jD, jE, jF]) (by simp (decide := true) only [go_sem, reduceIte, reduceCtorEq, jA, jB, jC, jD, jE, jF, invRow])⟩
      · have hs : (((g.take k).map (·.name)).any fun s => s == p.name) = true := by rw [List.any_map]; exact any_at hq t3
        have hi' : checkI g = 8 := by rw [← hi, hs]; rfl
        (repeat' (first | refine kA ?_ | refine kB ?_ | ((first | (refine kC (N := 58) rfl (by kernel_rfl) ?_) | (apply kJ (id := 11) (N := 58) kpm2; kernel_rfl; rfl; kernel_rfl; (repeat (first | exact Picks.nil | (apply Picks.cons; rfl)))) | refine kD ?_ | refine kE ?_ | refine kF ?_); simp (decide := true) only [go_sem, reduceIte, reduceCtorEq, jA, jB, jC, jD, jE, jF, hjlt, hjw, hp, hgq, t3, invRow, Phon.enc]) | (apply kG; (simp (decide := true) only [go_sem, reduceIte, reduceCtorEq, jA, jB, jC, jD, jE, jF, hjlt, hjw, hp, hgq, t3, invRow, Phon.enc]; rfl); all_goals (intro hcnd; first | (exact absurd hcnd (by decide)) | skip)) | ((first | refine kH ?_ ?_ | refine kI ?_ ?_) <;> (intro hcnd; simp (decide := true) only [go_sem, reduceIte, reduceCtorEq, jA, jB, jC, jD, jE, jF, hcnd, hjlt, hjw, hp, hgq, t3, invRow, Phon.enc]))))
        rw [hi']
    · intro hjlt hji
      rw [hkl] at hjlt ⊢
      have hs : (((g.take k).map (·.name)).any fun s => s == p.name) = false := by rw [List.any_map]; exact any_take_no hji
      rw [hs] at hi
      rcases Bool.eq_false_or_eq_true (decide (p.feat < 0)) with t4 | t4
      · have hi' : checkI g = 2 := by rw [← hi]; simp at t4; simp [t4]
        (repeat' (first | refine kA ?_ | refine kB ?_ | ((first | (refine kC (N := 58) rfl (by kernel_rfl) ?_) | (apply kJ (id := 11) (N := 58) kpm2; kernel_rfl; rfl; kernel_rfl; (repeat (first | exact Picks.nil | (apply Picks.cons; rfl)))) | refine kD ?_ | refine kE ?_ | refine kF ?_); simp (decide := true) only [go_sem, reduceIte, reduceCtorEq, jA, jB, jC, jD, jE, jF, hjlt, hp, t4, invRow, Phon.enc]) | (apply kG; (simp (decide := true) only [go_sem, reduceIte, reduceCtorEq, jA, jB, jC, jD, jE, jF, hjlt, hp, t4, invRow, Phon.enc]; rfl); all_goals (intro hcnd; first | (exact absurd hcnd (by decide)) | skip)) | ((first | refine kH ?_ ?_ | refine kI ?_ ?_) <;> (intro hcnd; simp (decide := true) only [go_sem, reduceIte, reduceCtorEq, jA, jB, jC, jD, jE, jF, hcnd, hjlt, hp, t4, invRow, Phon.enc]))))
        rw [hi']
      rcases Bool.eq_false_or_eq_true (decide ((65536 : Int) ≤ p.feat)) with t5 | t5
      · have hi' : checkI g = 2 := by rw [← hi]; simp at t5; simp [t5]
        (repeat' (first | refine kA ?_ | refine kB ?_ | ((first | (refine kC (N := 58) rfl (by kernel_rfl) ?_) | (apply kJ (id := 11) (N := 58) kpm2; kernel_rfl; rfl; kernel_rfl; (repeat (first | exact Picks.nil | (apply Picks.cons; rfl)))) | refine kD ?_ | refine kE ?_ | refine kF ?_); simp (decide := true) only [go_sem, reduceIte, reduceCtorEq, jA, jB, jC, jD, jE, jF, hjlt, hp, t4, t5, invRow, Phon.enc]) | (apply kG; (simp (decide := true) only [go_sem, reduceIte, reduceCtorEq, jA, jB, jC, jD, jE, jF, hjlt, hp, t4, t5, invRow, Phon.enc]; rfl); all_goals (intro hcnd; first | (exact absurd hcnd (by decide)) | skip)) | ((first | refine kH ?_ ?_ | refine kI ?_ ?_) <;> (intro hcnd; simp (decide := true) only [go_sem, reduceIte, reduceCtorEq, jA, jB, jC, jD, jE, jF, hcnd, hjlt, hp, t4, t5, invRow, Phon.enc]))))
        rw [hi']
      (repeat' (first | refine kA ?_ | refine kB ?_ | ((first | (refine kC (N := 58) rfl (by kernel_rfl) ?_) | (apply kJ (id := 11) (N := 58) kpm2; kernel_rfl; rfl; kernel_rfl; (repeat (first | exact Picks.nil | (apply Picks.cons; rfl)))) | refine kD ?_ | refine kE ?_ | refine kF ?_); simp (decide := true) only [go_sem, reduceIte, reduceCtorEq, jA, jB, jC, jD, jE, jF, hjlt, hp, t4, t5, hw, invRow, Phon.enc]) | (apply kG; (simp (decide := true) only [go_sem, reduceIte, reduceCtorEq, jA, jB, jC, jD, jE, jF, hjlt, hp, t4, t5, hw, invRow, Phon.enc]; rfl); all_goals (intro hcnd; first | (exact absurd hcnd (by decide)) | skip)) | ((first | refine kH ?_ ?_ | refine kI ?_ ?_) <;> (intro hcnd; simp (decide := true) only [go_sem, reduceIte, reduceCtorEq, jA, jB, jC, jD, jE, jF, hcnd, hjlt, hp, t4, t5, hw, invRow, Phon.enc]))))
      refine ⟨?_, kM rfl (by simp (decide := true) only [go_sem, reduceIte, reduceCtorEq, jA, jB, jC, jD, jE, jF]) (by simp (decide := true) only [go_sem, reduceIte, reduceCtorEq, jA, jB, jC, jD, jE, jF, invRow])⟩
      rw [htk, List.map_append, ← hi]
      have n4 := of_decide_eq_false t4
      have n5 := of_decide_eq_false t5
      rw [if_neg (by decide), if_neg (by decide), if_neg (by omega)]; rfl
  · intro hlt hi
    (repeat' (first | refine kA ?_ | refine kB ?_ | ((first | (refine kC (N := 58) rfl (by kernel_rfl) ?_) | (apply kJ (id := 11) (N := 58) kpm2; kernel_rfl; rfl; kernel_rfl; (repeat (first | exact Picks.nil | (apply Picks.cons; rfl)))) | refine kD ?_ | refine kE ?_ | refine kF ?_); simp (decide := true) only [go_sem, reduceIte, reduceCtorEq, jA, jB, jC, jD, jE, jF, hlt]) | (apply kG; (simp (decide := true) only [go_sem, reduceIte, reduceCtorEq, jA, jB, jC, jD, jE, jF, hlt]; rfl); all_goals (intro hcnd; first | (exact absurd hcnd (by decide)) | skip)) | ((first | refine kH ?_ ?_ | refine kI ?_ ?_) <;> (intro hcnd; simp (decide := true) only [go_sem, reduceIte, reduceCtorEq, jA, jB, jC, jD, jE, jF, hcnd, hlt]))))
    rw [← hi]; simp [chkI]
end Go.Proofs.YtiaamlaibfpdgaaDoor

namespace Go.Proofs.YtiaamlaibfpdgaaDoor
abbrev kpm3 : List (Nat × Go.Dl.Mode) := [(0, .light), (1, .light), (2, .light), (3, .light), (4, .light), (5, .light), (6, .light), (7, .light), (8, .light)]
abbrev kpm4 : List (Nat × Go.Dl.Mode) := [(0, .light), (1, .light), (2, .light), (3, .light), (4, .light), (5, .light), (6, .light), (7, .light), (8, .light), (9, .light), (10, .step), (11, .light)]
abbrev kpm5 : List (Nat × Go.Dl.Mode) := [(0, .light), (1, .light), (2, .light), (3, .light), (4, .light), (5, .light), (6, .light), (7, .light), (8, .light), (9, .light), (10, .light)]
end Go.Proofs.YtiaamlaibfpdgaaDoor
/- Entries compared: one with one. -/
namespace Go.Proofs.YtiaamlaibfpdgaaDoor
open Go.Dl
open Go.Dl renaming dw_seq → kA, dw_block → kB, dw_reg → kC, dw_skip → kD, dw_exit → kE, dw_ret → kF, dw_cond → kG, guardC_f → kH, guardC_t → kI, dw_drw → kJ, dw_weaken → kK, sub_kn → kL, sub_ml → kM
open Go.Dl.CallC renaming mk → kN, light → kO
open Go.Dl.LeL renaming of_eq → kP
attribute [local irreducible] DW ECalls wk IW

theorem vc_len {w : World} {K : KSet} {sz : Nat} {xs : List (List Dl.C)} {v : Value} (h : VC w K (.sl sz xs) v) : xs.length ≤ maxLen := by
  cases h with
  | nil => simp
  | sl _ _ _ _ _ _ hc hm _ _ => omega
theorem vc_in {w : World} {K : KSet} {sz : Nat} {xs : List (List Dl.C)} {v : Value} (h : VC w K (.sl sz xs) v) {r : List Dl.C} {c : Dl.C} (hr : r ∈ xs) (hc : c ∈ r) : ∃ v', VC w K c v' := by
  cases h with
  | nil => simp at hr
  | sl _ _ _ _ cv _ _ _ _ h2 =>
    obtain ⟨i, hi⟩ := List.mem_iff_getElem?.1 hr
    obtain ⟨j, hj⟩ := List.mem_iff_getElem?.1 hc
    exact ⟨_, h2 i j r c hi hj⟩

theorem dcalls_grant {P : Program} {f : FuncId} {ds : List D} {r : D} {p : Prop} (hp : Program.plainF P f = true) (hg : ∀ (w : World) (K : KSet), (∀ d ∈ ds, ∃ v, VD w (E0 K) d v) → p) (h : p → DCalls P f ds r) : DCalls P f ds r :=
  ⟨hp, fun w K vs hK hsz hv => by
    have : p := hg w K fun d hd => by
      obtain ⟨j, hj⟩ := List.mem_iff_getElem?.1 hd
      have hjl : j < ds.length := (List.getElem?_eq_some_iff.1 hj).1
      exact ⟨vs[j], hv j d vs[j] hj (Array.getElem?_eq_getElem (by omega))⟩
    exact (h this).2 w K vs hK hsz hv⟩

attribute [local irreducible] DCalls

structure OkE (e : Ent) : Prop where
  form : e.form.length ≤ maxLen
  alts : e.alts.length ≤ maxLen
  alt : ∀ a ∈ e.alts, a.length ≤ maxLen
  senses : e.senses.length ≤ maxLen
  links : e.links.length ≤ maxLen
  refs : e.refs.length ≤ maxLen

theorem okE_of {w : World} {E : Env} {e : Ent} {v : Value} (h : VD w E (.agg e.row) v) : OkE e := by
  cases h with
  | agg _ vs hl hr =>
    have hsz : vs.size = 8 := hl
    have hc : ∀ (j : Nat) (c : Dl.C), j < 8 → e.row[j]? = some (.c c) → ∃ v, VC w E.K c v := fun j c hj hjr => by
      have := hr j _ vs[j] hjr (Array.getElem?_eq_getElem (by omega))
      cases this with
      | c _ _ h => exact ⟨_, h⟩
    obtain ⟨v1, h1⟩ := hc 1 _ (by decide) rfl
    obtain ⟨v3, h3⟩ := hc 3 _ (by decide) rfl
    obtain ⟨v5, h5⟩ := hc 5 _ (by decide) rfl
    obtain ⟨v6, h6⟩ := hc 6 _ (by decide) rfl
    obtain ⟨v7, h7⟩ := hc 7 _ (by decide) rfl
    refine ⟨by simpa using vc_len h1, by simpa using vc_len h3, fun a ha => ?_, by simpa using vc_len h5, by simpa using vc_len h6, by simpa using vc_len h7⟩
    obtain ⟨v', h'⟩ := vc_in h3 (List.mem_map.2 ⟨a, ha, rfl⟩) (List.mem_singleton.2 rfl)
    simpa using vc_len h'

theorem lnk_eq (x y : Lnk) : (x.kind == y.kind && (x.tgt == y.tgt)) = decide (x = y) := by rw [Bool.eq_iff_iff]; cases x; cases y; simp
theorem sns_eq (x y : Sns) : (x.gloss == y.gloss && (x.txt == y.txt)) = decide (x = y) := by rw [Bool.eq_iff_iff]; cases x; cases y; simp [bytes_eq]

set_option maxRecDepth 10000 in

set_option maxHeartbeats 4000000 in
theorem sameI_D (xs ys : List Int) (hx : xs.length ≤ maxLen) : DCalls Tryd.prog 25 [dv (.sl 1 (ints xs)), dv (.sl 1 (ints ys))] (dv (lb (decide (xs = ys)))) := by
  refine dcalls (N := 26) (rs := [.tmp 4]) (by kernel_rfl) Tryd.func25 rfl rfl rfl (by simp) ?_
  (repeat' (first | refine kA ?_ | refine kB ?_ | ((first | (refine kC (N := 26) rfl (by kernel_rfl) ?_) | (apply kJ (id := 6) (N := 26) kpm3; kernel_rfl; rfl; kernel_rfl; (repeat (first | exact Picks.nil | (apply Picks.cons; rfl)))) | refine kD ?_ | refine kE ?_ | refine kF ?_); simp (decide := true) only [go_sem, reduceIte, reduceCtorEq, jA, jB, jC, jD, jE, jF]) | (apply kG; (simp (decide := true) only [go_sem, reduceIte, reduceCtorEq, jA, jB, jC, jD, jE, jF]; rfl); all_goals (intro hcnd; first | (exact absurd hcnd (by decide)) | skip))))
  · have : xs ≠ ys := fun e => by subst e; simp at hcnd
    simp [this]
  · have hl : xs.length = ys.length := by simp at hcnd; omega
    refine dw_rngI xs (fun k => kn 26 [(0, dv (.sl 1 (ints xs))), (1, dv (.sl 1 (ints ys))), (12, dv (li xs.length)), (13, dv (li k))] noMem) (fun k => xs.take k = ys.take k) hx (kL rfl (by simp (decide := true) only [go_sem, reduceIte, reduceCtorEq, jA, jB, jC, jD, jE, jF]) (by simp [noMem])) rfl ?_ ?_
    · intro k x hx hk hm htk hlt hw hi
      have hyk : k < ys.length := by omega
      have hy : ys[k]? = some ys[k] := List.getElem?_eq_getElem hyk
      have hx' := ints_at hx
      have hy' := ints_at hy
      (repeat' (first | refine kA ?_ | refine kB ?_ | ((first | (refine kC (N := 26) rfl (by kernel_rfl) ?_) | (apply kJ (id := 6) (N := 26) kpm3; kernel_rfl; rfl; kernel_rfl; (repeat (first | exact Picks.nil | (apply Picks.cons; rfl)))) | refine kD ?_ | refine kE ?_ | refine kF ?_); simp (decide := true) only [go_sem, reduceIte, reduceCtorEq, jA, jB, jC, jD, jE, jF, hlt, hw, hx', hy']) | (apply kG; (simp (decide := true) only [go_sem, reduceIte, reduceCtorEq, jA, jB, jC, jD, jE, jF, hlt, hw, hx', hy']; rfl); all_goals (intro hcnd; first | (exact absurd hcnd (by decide)) | skip))))
      · have hne : x ≠ ys[k] := by simpa using hcnd
        have : xs ≠ ys := fun e => by
          subst e; rw [hx] at hy; injection hy with hy; exact hne hy
        simp [this]
      · have he : x = ys[k] := by simpa using hcnd
        exact ⟨by rw [htk, hi, he, ← take_snoc hy], kL rfl (by simp (decide := true) only [go_sem, reduceIte, reduceCtorEq, jA, jB, jC, jD, jE, jF]) (by simp [noMem])⟩
    · intro hlt hi
      rw [List.take_length, hl, List.take_length] at hi
      (repeat' (first | refine kA ?_ | refine kB ?_ | ((first | (refine kC (N := 26) rfl (by kernel_rfl) ?_) | (apply kJ (id := 6) (N := 26) kpm3; kernel_rfl; rfl; kernel_rfl; (repeat (first | exact Picks.nil | (apply Picks.cons; rfl)))) | refine kD ?_ | refine kE ?_ | refine kF ?_); simp (decide := true) only [go_sem, reduceIte, reduceCtorEq, jA, jB, jC, jD, jE, jF, hlt]) | (apply kG; (simp (decide := true) only [go_sem, reduceIte, reduceCtorEq, jA, jB, jC, jD, jE, jF, hlt]; rfl); all_goals (intro hcnd; first | (exact absurd hcnd (by decide)) | skip))))
      simp [hi]

set_option maxRecDepth 10000 in

set_option maxHeartbeats 4000000 in
theorem eqI_D (xs ys : List Int) (hx : xs.length ≤ maxLen) : DCalls Tryd.prog 50 [dv (.sl 1 (ints xs)), dv (.sl 1 (ints ys))] (dv (lb (decide (xs = ys)))) := by
  refine dcalls (N := 26) (rs := [.tmp 4]) (by kernel_rfl) Tryd.func50 rfl rfl rfl (by simp) ?_
  (repeat' (first | refine kA ?_ | refine kB ?_ | ((first | (refine kC (N := 26) rfl (by kernel_rfl) ?_) | (apply kJ (id := 6) (N := 26) kpm3; kernel_rfl; rfl; kernel_rfl; (repeat (first | exact Picks.nil | (apply Picks.cons; rfl)))) | refine kD ?_ | refine kE ?_ | refine kF ?_); simp (decide := true) only [go_sem, reduceIte, reduceCtorEq, jA, jB, jC, jD, jE, jF]) | (apply kG; (simp (decide := true) only [go_sem, reduceIte, reduceCtorEq, jA, jB, jC, jD, jE, jF]; rfl); all_goals (intro hcnd; first | (exact absurd hcnd (by decide)) | skip))))
  · have : xs ≠ ys := fun e => by subst e; simp at hcnd
    simp [this]
  · have hl : xs.length = ys.length := by simp at hcnd; omega
    refine dw_rngI xs (fun k => kn 26 [(0, dv (.sl 1 (ints xs))), (1, dv (.sl 1 (ints ys))), (12, dv (li xs.length)), (13, dv (li k))] noMem) (fun k => xs.take k = ys.take k) hx (kL rfl (by simp (decide := true) only [go_sem, reduceIte, reduceCtorEq, jA, jB, jC, jD, jE, jF]) (by simp [noMem])) rfl ?_ ?_
    · intro k x hx hk hm htk hlt hw hi
      have hyk : k < ys.length := by omega
      have hy : ys[k]? = some ys[k] := List.getElem?_eq_getElem hyk
      have hx' := ints_at hx
      have hy' := ints_at hy
      (repeat' (first | refine kA ?_ | refine kB ?_ | ((first | (refine kC (N := 26) rfl (by kernel_rfl) ?_) | (apply kJ (id := 6) (N := 26) kpm3; kernel_rfl; rfl; kernel_rfl; (repeat (first | exact Picks.nil | (apply Picks.cons; rfl)))) | refine kD ?_ | refine kE ?_ | refine kF ?_); simp (decide := true) only [go_sem, reduceIte, reduceCtorEq, jA, jB, jC, jD, jE, jF, hlt, hw, hx', hy']) | (apply kG; (simp (decide := true) only [go_sem, reduceIte, reduceCtorEq, jA, jB, jC, jD, jE, jF, hlt, hw, hx', hy']; rfl); all_goals (intro hcnd; first | (exact absurd hcnd (by decide)) | skip))))
      · have hne : x ≠ ys[k] := by simpa using hcnd
        have : xs ≠ ys := fun e => by
          subst e; rw [hx] at hy; injection hy with hy; exact hne hy
        simp [this]
      · have he : x = ys[k] := by simpa using hcnd
        exact ⟨by rw [htk, hi, he, ← take_snoc hy], kL rfl (by simp (decide := true) only [go_sem, reduceIte, reduceCtorEq, jA, jB, jC, jD, jE, jF]) (by simp [noMem])⟩
    · intro hlt hi
      rw [List.take_length, hl, List.take_length] at hi
      (repeat' (first | refine kA ?_ | refine kB ?_ | ((first | (refine kC (N := 26) rfl (by kernel_rfl) ?_) | (apply kJ (id := 6) (N := 26) kpm3; kernel_rfl; rfl; kernel_rfl; (repeat (first | exact Picks.nil | (apply Picks.cons; rfl)))) | refine kD ?_ | refine kE ?_ | refine kF ?_); simp (decide := true) only [go_sem, reduceIte, reduceCtorEq, jA, jB, jC, jD, jE, jF, hlt]) | (apply kG; (simp (decide := true) only [go_sem, reduceIte, reduceCtorEq, jA, jB, jC, jD, jE, jF, hlt]; rfl); all_goals (intro hcnd; first | (exact absurd hcnd (by decide)) | skip))))
      simp [hi]

set_option maxRecDepth 10000 in

set_option maxHeartbeats 4000000 in
theorem eqS_D (xs ys : List Sns) (hx : xs.length ≤ maxLen) : DCalls Tryd.prog 55 [dv (.sl 2 (xs.map Sns.enc)), dv (.sl 2 (ys.map Sns.enc))] (dv (lb (decide (xs = ys)))) := by
  refine dcalls (N := 26) (rs := [.tmp 4]) (by kernel_rfl) Tryd.func55 rfl rfl rfl (by simp) ?_
  (repeat' (first | refine kA ?_ | refine kB ?_ | ((first | (refine kC (N := 26) rfl (by kernel_rfl) ?_) | (apply kJ (id := 6) (N := 26) kpm3; kernel_rfl; rfl; kernel_rfl; (repeat (first | exact Picks.nil | (apply Picks.cons; rfl)))) | refine kD ?_ | refine kE ?_ | refine kF ?_); simp (decide := true) only [go_sem, reduceIte, reduceCtorEq, jA, jB, jC, jD, jE, jF]) | (apply kG; (simp (decide := true) only [go_sem, reduceIte, reduceCtorEq, jA, jB, jC, jD, jE, jF]; rfl); all_goals (intro hcnd; first | (exact absurd hcnd (by decide)) | skip))))
  · have : xs ≠ ys := fun e => by subst e; simp at hcnd
    simp [this]
  · have hl : xs.length = ys.length := by simp at hcnd; omega
    refine dw_rngI xs (fun k => kn 26 [(0, dv (.sl 2 (xs.map Sns.enc))), (1, dv (.sl 2 (ys.map Sns.enc))), (12, dv (li xs.length)), (13, dv (li k))] noMem) (fun k => xs.take k = ys.take k) hx (kL rfl (by simp (decide := true) only [go_sem, reduceIte, reduceCtorEq, jA, jB, jC, jD, jE, jF]) (by simp [noMem])) rfl ?_ ?_
    · intro k x hx hk hm htk hlt hw hi
      have hyk : k < ys.length := by omega
      have hy : ys[k]? = some ys[k] := List.getElem?_eq_getElem hyk
      have hle := sns_eq x ys[k]
      by_cases h4 : x = ys[k]
      · have h5 : decide (x = ys[k]) = true := by simpa using h4
        (repeat' (first | refine kA ?_ | refine kB ?_ | ((first | (refine kC (N := 26) rfl (by kernel_rfl) ?_) | (apply kJ (id := 6) (N := 26) kpm3; kernel_rfl; rfl; kernel_rfl; (repeat (first | exact Picks.nil | (apply Picks.cons; rfl)))) | refine kD ?_ | refine kE ?_ | refine kF ?_); simp (decide := true) only [go_sem, reduceIte, reduceCtorEq, jA, jB, jC, jD, jE, jF, hlt, hw, hx, hy, hle, h5, Sns.enc]) | (apply kG; (simp (decide := true) only [go_sem, reduceIte, reduceCtorEq, jA, jB, jC, jD, jE, jF, hlt, hw, hx, hy, hle, h5, Sns.enc]; rfl); all_goals (intro hcnd; first | (exact absurd hcnd (by decide)) | skip))))
        exact ⟨by rw [htk, hi, h4, ← take_snoc hy], kL rfl (by simp (decide := true) only [go_sem, reduceIte, reduceCtorEq, jA, jB, jC, jD, jE, jF]) (by simp [noMem])⟩
      · have h5 : decide (x = ys[k]) = false := by simpa using h4
        have : xs ≠ ys := fun e => by
          subst e; rw [hx] at hy; injection hy with hy; exact h4 hy
        (repeat' (first | refine kA ?_ | refine kB ?_ | ((first | (refine kC (N := 26) rfl (by kernel_rfl) ?_) | (apply kJ (id := 6) (N := 26) kpm3; kernel_rfl; rfl; kernel_rfl; (repeat (first | exact Picks.nil | (apply Picks.cons; rfl)))) | refine kD ?_ | refine kE ?_ | refine kF ?_); simp (decide := true) only [go_sem, reduceIte, reduceCtorEq, jA, jB, jC, jD, jE, jF, hlt, hw, hx, hy, hle, h5, Sns.enc]) | (apply kG; (simp (decide := true) only [go_sem, reduceIte, reduceCtorEq, jA, jB, jC, jD, jE, jF, hlt, hw, hx, hy, hle, h5, Sns.enc]; rfl); all_goals (intro hcnd; first | (exact absurd hcnd (by decide)) | skip))))
        simp [this]
    · intro hlt hi
      rw [List.take_length, hl, List.take_length] at hi
      (repeat' (first | refine kA ?_ | refine kB ?_ | ((first | (refine kC (N := 26) rfl (by kernel_rfl) ?_) | (apply kJ (id := 6) (N := 26) kpm3; kernel_rfl; rfl; kernel_rfl; (repeat (first | exact Picks.nil | (apply Picks.cons; rfl)))) | refine kD ?_ | refine kE ?_ | refine kF ?_); simp (decide := true) only [go_sem, reduceIte, reduceCtorEq, jA, jB, jC, jD, jE, jF, hlt]) | (apply kG; (simp (decide := true) only [go_sem, reduceIte, reduceCtorEq, jA, jB, jC, jD, jE, jF, hlt]; rfl); all_goals (intro hcnd; first | (exact absurd hcnd (by decide)) | skip))))
      simp [hi]

set_option maxRecDepth 10000 in

set_option maxHeartbeats 4000000 in
theorem eqL_D (xs ys : List Lnk) (hx : xs.length ≤ maxLen) : DCalls Tryd.prog 56 [dv (.sl 2 (xs.map Lnk.enc)), dv (.sl 2 (ys.map Lnk.enc))] (dv (lb (decide (xs = ys)))) := by
  refine dcalls (N := 26) (rs := [.tmp 4]) (by kernel_rfl) Tryd.func56 rfl rfl rfl (by simp) ?_
  (repeat' (first | refine kA ?_ | refine kB ?_ | ((first | (refine kC (N := 26) rfl (by kernel_rfl) ?_) | (apply kJ (id := 6) (N := 26) kpm3; kernel_rfl; rfl; kernel_rfl; (repeat (first | exact Picks.nil | (apply Picks.cons; rfl)))) | refine kD ?_ | refine kE ?_ | refine kF ?_); simp (decide := true) only [go_sem, reduceIte, reduceCtorEq, jA, jB, jC, jD, jE, jF]) | (apply kG; (simp (decide := true) only [go_sem, reduceIte, reduceCtorEq, jA, jB, jC, jD, jE, jF]; rfl); all_goals (intro hcnd; first | (exact absurd hcnd (by decide)) | skip))))
  · have : xs ≠ ys := fun e => by subst e; simp at hcnd
    simp [this]
  · have hl : xs.length = ys.length := by simp at hcnd; omega
    refine dw_rngI xs (fun k => kn 26 [(0, dv (.sl 2 (xs.map Lnk.enc))), (1, dv (.sl 2 (ys.map Lnk.enc))), (12, dv (li xs.length)), (13, dv (li k))] noMem) (fun k => xs.take k = ys.take k) hx (kL rfl (by simp (decide := true) only [go_sem, reduceIte, reduceCtorEq, jA, jB, jC, jD, jE, jF]) (by simp [noMem])) rfl ?_ ?_
    · intro k x hx hk hm htk hlt hw hi
      have hyk : k < ys.length := by omega
      have hy : ys[k]? = some ys[k] := List.getElem?_eq_getElem hyk
      have hle := lnk_eq x ys[k]
      by_cases h4 : x = ys[k]
      · have h5 : decide (x = ys[k]) = true := by simpa using h4
        (repeat' (first | refine kA ?_ | refine kB ?_ | ((first | (refine kC (N := 26) rfl (by kernel_rfl) ?_) | (apply kJ (id := 6) (N := 26) kpm3; kernel_rfl; rfl; kernel_rfl; (repeat (first | exact Picks.nil | (apply Picks.cons; rfl)))) | refine kD ?_ | refine kE ?_ | refine kF ?_); simp (decide := true) only [go_sem, reduceIte, reduceCtorEq, jA, jB, jC, jD, jE, jF, hlt, hw, hx, hy, hle, h5, Lnk.enc]) | (apply kG; (simp (decide := true) only [go_sem, reduceIte, reduceCtorEq, jA, jB, jC, jD, jE, jF, hlt, hw, hx, hy, hle, h5, Lnk.enc]; rfl); all_goals (intro hcnd; first | (exact absurd hcnd (by decide)) | skip))))
        exact ⟨by rw [htk, hi, h4, ← take_snoc hy], kL rfl (by simp (decide := true) only [go_sem, reduceIte, reduceCtorEq, jA, jB, jC, jD, jE, jF]) (by simp [noMem])⟩
      · have h5 : decide (x = ys[k]) = false := by simpa using h4
        have : xs ≠ ys := fun e => by
          subst e; rw [hx] at hy; injection hy with hy; exact h4 hy
        (repeat' (first | refine kA ?_ | refine kB ?_ | ((first | (refine kC (N := 26) rfl (by kernel_rfl) ?_) | (apply kJ (id := 6) (N := 26) kpm3; kernel_rfl; rfl; kernel_rfl; (repeat (first | exact Picks.nil | (apply Picks.cons; rfl)))) | refine kD ?_ | refine kE ?_ | refine kF ?_); simp (decide := true) only [go_sem, reduceIte, reduceCtorEq, jA, jB, jC, jD, jE, jF, hlt, hw, hx, hy, hle, h5, Lnk.enc]) | (apply kG; (simp (decide := true) only [go_sem, reduceIte, reduceCtorEq, jA, jB, jC, jD, jE, jF, hlt, hw, hx, hy, hle, h5, Lnk.enc]; rfl); all_goals (intro hcnd; first | (exact absurd hcnd (by decide)) | skip))))
        simp [this]
    · intro hlt hi
      rw [List.take_length, hl, List.take_length] at hi
      (repeat' (first | refine kA ?_ | refine kB ?_ | ((first | (refine kC (N := 26) rfl (by kernel_rfl) ?_) | (apply kJ (id := 6) (N := 26) kpm3; kernel_rfl; rfl; kernel_rfl; (repeat (first | exact Picks.nil | (apply Picks.cons; rfl)))) | refine kD ?_ | refine kE ?_ | refine kF ?_); simp (decide := true) only [go_sem, reduceIte, reduceCtorEq, jA, jB, jC, jD, jE, jF, hlt]) | (apply kG; (simp (decide := true) only [go_sem, reduceIte, reduceCtorEq, jA, jB, jC, jD, jE, jF, hlt]; rfl); all_goals (intro hcnd; first | (exact absurd hcnd (by decide)) | skip))))
      simp [hi]

set_option maxRecDepth 10000 in

set_option maxHeartbeats 4000000 in
theorem eqR_D (xs ys : List Lnk) (hx : xs.length ≤ maxLen) : DCalls Tryd.prog 57 [dv (.sl 2 (xs.map Lnk.enc)), dv (.sl 2 (ys.map Lnk.enc))] (dv (lb (decide (xs = ys)))) := by
  refine dcalls (N := 26) (rs := [.tmp 4]) (by kernel_rfl) Tryd.func57 rfl rfl rfl (by simp) ?_
  (repeat' (first | refine kA ?_ | refine kB ?_ | ((first | (refine kC (N := 26) rfl (by kernel_rfl) ?_) | (apply kJ (id := 6) (N := 26) kpm3; kernel_rfl; rfl; kernel_rfl; (repeat (first | exact Picks.nil | (apply Picks.cons; rfl)))) | refine kD ?_ | refine kE ?_ | refine kF ?_); simp (decide := true) only [go_sem, reduceIte, reduceCtorEq, jA, jB, jC, jD, jE, jF]) | (apply kG; (simp (decide := true) only [go_sem, reduceIte, reduceCtorEq, jA, jB, jC, jD, jE, jF]; rfl); all_goals (intro hcnd; first | (exact absurd hcnd (by decide)) | skip))))
  · have : xs ≠ ys := fun e => by subst e; simp at hcnd
    simp [this]
  · have hl : xs.length = ys.length := by simp at hcnd; omega
    refine dw_rngI xs (fun k => kn 26 [(0, dv (.sl 2 (xs.map Lnk.enc))), (1, dv (.sl 2 (ys.map Lnk.enc))), (12, dv (li xs.length)), (13, dv (li k))] noMem) (fun k => xs.take k = ys.take k) hx (kL rfl (by simp (decide := true) only [go_sem, reduceIte, reduceCtorEq, jA, jB, jC, jD, jE, jF]) (by simp [noMem])) rfl ?_ ?_
    · intro k x hx hk hm htk hlt hw hi
      have hyk : k < ys.length := by omega
      have hy : ys[k]? = some ys[k] := List.getElem?_eq_getElem hyk
      have hle := lnk_eq x ys[k]
      by_cases h4 : x = ys[k]
      · have h5 : decide (x = ys[k]) = true := by simpa using h4
        (repeat' (first | refine kA ?_ | refine kB ?_ | ((first | (refine kC (N := 26) rfl (by kernel_rfl) ?_) | (apply kJ (id := 6) (N := 26) kpm3; kernel_rfl; rfl; kernel_rfl; (repeat (first | exact Picks.nil | (apply Picks.cons; rfl)))) | refine kD ?_ | refine kE ?_ | refine kF ?_); simp (decide := true) only [go_sem, reduceIte, reduceCtorEq, jA, jB, jC, jD, jE, jF, hlt, hw, hx, hy, hle, h5, Lnk.enc]) | (apply kG; (simp (decide := true) only [go_sem, reduceIte, reduceCtorEq, jA, jB, jC, jD, jE, jF, hlt, hw, hx, hy, hle, h5, Lnk.enc]; rfl); all_goals (intro hcnd; first | (exact absurd hcnd (by decide)) | skip))))
        exact ⟨by rw [htk, hi, h4, ← take_snoc hy], kL rfl (by simp (decide := true) only [go_sem, reduceIte, reduceCtorEq, jA, jB, jC, jD, jE, jF]) (by simp [noMem])⟩
      · have h5 : decide (x = ys[k]) = false := by simpa using h4
        have : xs ≠ ys := fun e => by
          subst e; rw [hx] at hy; injection hy with hy; exact h4 hy
        (repeat' (first | refine kA ?_ | refine kB ?_ | ((first | (refine kC (N := 26) rfl (by kernel_rfl) ?_) | (apply kJ (id := 6) (N := 26) kpm3; kernel_rfl; rfl; kernel_rfl; (repeat (first | exact Picks.nil | (apply Picks.cons; rfl)))) | refine kD ?_ | refine kE ?_ | refine kF ?_); simp (decide := true) only [go_sem, reduceIte, reduceCtorEq, jA, jB, jC, jD, jE, jF, hlt, hw, hx, hy, hle, h5, Lnk.enc]) | (apply kG; (simp (decide := true) only [go_sem, reduceIte, reduceCtorEq, jA, jB, jC, jD, jE, jF, hlt, hw, hx, hy, hle, h5, Lnk.enc]; rfl); all_goals (intro hcnd; first | (exact absurd hcnd (by decide)) | skip))))
        simp [this]
    · intro hlt hi
      rw [List.take_length, hl, List.take_length] at hi
      (repeat' (first | refine kA ?_ | refine kB ?_ | ((first | (refine kC (N := 26) rfl (by kernel_rfl) ?_) | (apply kJ (id := 6) (N := 26) kpm3; kernel_rfl; rfl; kernel_rfl; (repeat (first | exact Picks.nil | (apply Picks.cons; rfl)))) | refine kD ?_ | refine kE ?_ | refine kF ?_); simp (decide := true) only [go_sem, reduceIte, reduceCtorEq, jA, jB, jC, jD, jE, jF, hlt]) | (apply kG; (simp (decide := true) only [go_sem, reduceIte, reduceCtorEq, jA, jB, jC, jD, jE, jF, hlt]; rfl); all_goals (intro hcnd; first | (exact absurd hcnd (by decide)) | skip))))
      simp [hi]

set_option maxRecDepth 10000 in

set_option maxHeartbeats 4000000 in
theorem eqF_D (xs ys : List (List Int)) (hx : xs.length ≤ maxLen) (hxs : ∀ a ∈ xs, a.length ≤ maxLen) : DCalls Tryd.prog 54 [dv (.sl 1 (xs.map altC)), dv (.sl 1 (ys.map altC)), dv (.fn 50 [])] (dv (lb (decide (xs = ys)))) := by
  refine dcalls (N := 32) (rs := [.tmp 6]) (by kernel_rfl) Tryd.func54 rfl rfl rfl (by simp) ?_
  (repeat' (first | refine kA ?_ | refine kB ?_ | ((first | (refine kC (N := 32) rfl (by kernel_rfl) ?_) | refine kD ?_ | refine kE ?_ | refine kF ?_); simp (decide := true) only [go_sem, reduceIte, reduceCtorEq, jA, jB, jC, jD, jE, jF]) | (apply kG; (simp (decide := true) only [go_sem, reduceIte, reduceCtorEq, jA, jB, jC, jD, jE, jF]; rfl); all_goals (intro hcnd; first | (exact absurd hcnd (by decide)) | skip))))
  · have : xs ≠ ys := fun e => by subst e; simp at hcnd
    simp [this]
  · have hl : xs.length = ys.length := by simp at hcnd; omega
    refine dw_rngI xs (fun k => kn 32 [(1, dv (.sl 1 (ys.map altC))), (2, dv (.fn 50 [])), (15, dv (.sl 1 (xs.map altC))), (16, dv (li xs.length)), (17, dv (li k))] noMem) (fun k => xs.take k = ys.take k) hx (kL rfl (by simp (decide := true) only [go_sem, reduceIte, reduceCtorEq, jA, jB, jC, jD, jE, jF]) (by simp [noMem])) rfl ?_ ?_
    · intro k x hx hk hm htk hlt hw hi
      have hyk : k < ys.length := by omega
      have hy : ys[k]? = some ys[k] := List.getElem?_eq_getElem hyk
      have hS := eqI_D x ys[k] (hxs x hm)
      by_cases h4 : x = ys[k]
      · have h5 : decide (x = ys[k]) = true := by simpa using h4
        rw [h5] at hS
        (repeat' (first | refine kA ?_ | refine kB ?_ | ((first | (refine kC (N := 32) rfl (by kernel_rfl) ?_) | refine kD ?_ | refine kE ?_ | (refine kN (hS) (kP rfl) ?_) | (refine kO (hS) (kP rfl) ?_) | refine kF ?_); simp (decide := true) only [go_sem, reduceIte, reduceCtorEq, jA, jB, jC, jD, jE, jF, hlt, hw, hx, hy, altC]) | (apply kG; (simp (decide := true) only [go_sem, reduceIte, reduceCtorEq, jA, jB, jC, jD, jE, jF, hlt, hw, hx, hy, altC]; rfl); all_goals (intro hcnd; first | (exact absurd hcnd (by decide)) | skip))))
        exact ⟨by rw [htk, hi, h4, ← take_snoc hy], kL rfl (by simp (decide := true) only [go_sem, reduceIte, reduceCtorEq, jA, jB, jC, jD, jE, jF]) (by simp [noMem])⟩
      · have h5 : decide (x = ys[k]) = false := by simpa using h4
        have : xs ≠ ys := fun e => by
          subst e; rw [hx] at hy; injection hy with hy; exact h4 hy
        rw [h5] at hS
        (repeat' (first | refine kA ?_ | refine kB ?_ | ((first | (refine kC (N := 32) rfl (by kernel_rfl) ?_) | refine kD ?_ | refine kE ?_ | (refine kN (hS) (kP rfl) ?_) | (refine kO (hS) (kP rfl) ?_) | refine kF ?_); simp (decide := true) only [go_sem, reduceIte, reduceCtorEq, jA, jB, jC, jD, jE, jF, hlt, hw, hx, hy, altC]) | (apply kG; (simp (decide := true) only [go_sem, reduceIte, reduceCtorEq, jA, jB, jC, jD, jE, jF, hlt, hw, hx, hy, altC]; rfl); all_goals (intro hcnd; first | (exact absurd hcnd (by decide)) | skip))))
        simp [this]
    · intro hlt hi
      rw [List.take_length, hl, List.take_length] at hi
      (repeat' (first | refine kA ?_ | refine kB ?_ | ((first | (refine kC (N := 32) rfl (by kernel_rfl) ?_) | refine kD ?_ | refine kE ?_ | refine kF ?_); simp (decide := true) only [go_sem, reduceIte, reduceCtorEq, jA, jB, jC, jD, jE, jF, hlt]) | (apply kG; (simp (decide := true) only [go_sem, reduceIte, reduceCtorEq, jA, jB, jC, jD, jE, jF, hlt]; rfl); all_goals (intro hcnd; first | (exact absurd hcnd (by decide)) | skip))))
      simp [hi]

set_option maxRecDepth 10000 in

set_option maxHeartbeats 16000000 in
theorem same24_D (e f : Ent) : DCalls Tryd.prog 28 [.agg e.row, .agg f.row] (dv (lb (decide (e = f)))) := by
  refine dcalls_grant (p := OkE e) (by kernel_rfl) (fun w K h => ?_) fun he => ?_
  · obtain ⟨v, hv⟩ := h (.agg e.row) (by simp)
    exact okE_of hv
  have hS := sameI_D e.form f.form he.form
  have hno : ∀ {α : Type} (g : Ent → α), g e ≠ g f → decide (e = f) = false := fun g h => by simp; exact fun h2 => h (by rw [h2])
  refine dcalls (N := 145) (rs := [.tmp 4]) (by kernel_rfl) Tryd.func28 rfl rfl rfl (by simp) ?_
  rcases Bool.eq_false_or_eq_true (e.id != f.id) with c1 | c1
  · (repeat' (first | refine kA ?_ | refine kB ?_ | ((first | (refine kC (N := 145) rfl (by kernel_rfl) ?_) | (apply kJ (id := 6) (N := 145) kpm4; kernel_rfl; rfl; kernel_rfl; (repeat (first | exact Picks.nil | (apply Picks.cons; rfl)))) | (apply kJ (id := 11) (N := 145) kpm5; kernel_rfl; rfl; kernel_rfl; (repeat (first | exact Picks.nil | (apply Picks.cons; rfl)))) | (apply kJ (id := 16) (N := 145) kpm5; kernel_rfl; rfl; kernel_rfl; (repeat (first | exact Picks.nil | (apply Picks.cons; rfl)))) | (apply kJ (id := 21) (N := 145) kpm5; kernel_rfl; rfl; kernel_rfl; (repeat (first | exact Picks.nil | (apply Picks.cons; rfl)))) | refine kD ?_ | refine kE ?_ | (refine kN (hS) (kP rfl) ?_) | (refine kO (hS) (kP rfl) ?_) | refine kF ?_); simp (decide := true) only [go_sem, reduceIte, reduceCtorEq, jA, jB, jC, jD, jE, jF, c1, Ent.row]) | (apply kG; (simp (decide := true) only [go_sem, reduceIte, reduceCtorEq, jA, jB, jC, jD, jE, jF, c1, Ent.row]; rfl); all_goals (intro hcnd; first | (exact absurd hcnd (by decide)) | skip)) | ((first | refine kH ?_ ?_ | refine kI ?_ ?_) <;> (intro hcnd; simp (decide := true) only [go_sem, reduceIte, reduceCtorEq, jA, jB, jC, jD, jE, jF, hcnd, c1, Ent.row]))))
    rw [hno (fun e => e.id) (by simpa using c1)]
  rcases Bool.eq_false_or_eq_true (e.cls != f.cls) with c2 | c2
  · (repeat' (first | refine kA ?_ | refine kB ?_ | ((first | (refine kC (N := 145) rfl (by kernel_rfl) ?_) | (apply kJ (id := 6) (N := 145) kpm4; kernel_rfl; rfl; kernel_rfl; (repeat (first | exact Picks.nil | (apply Picks.cons; rfl)))) | (apply kJ (id := 11) (N := 145) kpm5; kernel_rfl; rfl; kernel_rfl; (repeat (first | exact Picks.nil | (apply Picks.cons; rfl)))) | (apply kJ (id := 16) (N := 145) kpm5; kernel_rfl; rfl; kernel_rfl; (repeat (first | exact Picks.nil | (apply Picks.cons; rfl)))) | (apply kJ (id := 21) (N := 145) kpm5; kernel_rfl; rfl; kernel_rfl; (repeat (first | exact Picks.nil | (apply Picks.cons; rfl)))) | refine kD ?_ | refine kE ?_ | (refine kN (hS) (kP rfl) ?_) | (refine kO (hS) (kP rfl) ?_) | refine kF ?_); simp (decide := true) only [go_sem, reduceIte, reduceCtorEq, jA, jB, jC, jD, jE, jF, c1, c2, Ent.row]) | (apply kG; (simp (decide := true) only [go_sem, reduceIte, reduceCtorEq, jA, jB, jC, jD, jE, jF, c1, c2, Ent.row]; rfl); all_goals (intro hcnd; first | (exact absurd hcnd (by decide)) | skip)) | ((first | refine kH ?_ ?_ | refine kI ?_ ?_) <;> (intro hcnd; simp (decide := true) only [go_sem, reduceIte, reduceCtorEq, jA, jB, jC, jD, jE, jF, hcnd, c1, c2, Ent.row]))))
    rw [hno (fun e => e.cls) (by simpa using c2)]
  rcases Bool.eq_false_or_eq_true (e.main != f.main) with c3 | c3
  · (repeat' (first | refine kA ?_ | refine kB ?_ | ((first | (refine kC (N := 145) rfl (by kernel_rfl) ?_) | (apply kJ (id := 6) (N := 145) kpm4; kernel_rfl; rfl; kernel_rfl; (repeat (first | exact Picks.nil | (apply Picks.cons; rfl)))) | (apply kJ (id := 11) (N := 145) kpm5; kernel_rfl; rfl; kernel_rfl; (repeat (first | exact Picks.nil | (apply Picks.cons; rfl)))) | (apply kJ (id := 16) (N := 145) kpm5; kernel_rfl; rfl; kernel_rfl; (repeat (first | exact Picks.nil | (apply Picks.cons; rfl)))) | (apply kJ (id := 21) (N := 145) kpm5; kernel_rfl; rfl; kernel_rfl; (repeat (first | exact Picks.nil | (apply Picks.cons; rfl)))) | refine kD ?_ | refine kE ?_ | (refine kN (hS) (kP rfl) ?_) | (refine kO (hS) (kP rfl) ?_) | refine kF ?_); simp (decide := true) only [go_sem, reduceIte, reduceCtorEq, jA, jB, jC, jD, jE, jF, c1, c2, c3, Ent.row]) | (apply kG; (simp (decide := true) only [go_sem, reduceIte, reduceCtorEq, jA, jB, jC, jD, jE, jF, c1, c2, c3, Ent.row]; rfl); all_goals (intro hcnd; first | (exact absurd hcnd (by decide)) | skip)) | ((first | refine kH ?_ ?_ | refine kI ?_ ?_) <;> (intro hcnd; simp (decide := true) only [go_sem, reduceIte, reduceCtorEq, jA, jB, jC, jD, jE, jF, hcnd, c1, c2, c3, Ent.row]))))
    rw [hno (fun e => e.main) (by simpa using c3)]
  by_cases c4 : e.form = f.form
  rotate_left
  · have d4 : decide (e.form = f.form) = false := by simpa using c4
    (repeat' (first | refine kA ?_ | refine kB ?_ | ((first | (refine kC (N := 145) rfl (by kernel_rfl) ?_) | (apply kJ (id := 6) (N := 145) kpm4; kernel_rfl; rfl; kernel_rfl; (repeat (first | exact Picks.nil | (apply Picks.cons; rfl)))) | (apply kJ (id := 11) (N := 145) kpm5; kernel_rfl; rfl; kernel_rfl; (repeat (first | exact Picks.nil | (apply Picks.cons; rfl)))) | (apply kJ (id := 16) (N := 145) kpm5; kernel_rfl; rfl; kernel_rfl; (repeat (first | exact Picks.nil | (apply Picks.cons; rfl)))) | (apply kJ (id := 21) (N := 145) kpm5; kernel_rfl; rfl; kernel_rfl; (repeat (first | exact Picks.nil | (apply Picks.cons; rfl)))) | refine kD ?_ | refine kE ?_ | (refine kN (hS) (kP rfl) ?_) | (refine kO (hS) (kP rfl) ?_) | refine kF ?_); simp (decide := true) only [go_sem, reduceIte, reduceCtorEq, jA, jB, jC, jD, jE, jF, c1, c2, c3, d4, Ent.row]) | (apply kG; (simp (decide := true) only [go_sem, reduceIte, reduceCtorEq, jA, jB, jC, jD, jE, jF, c1, c2, c3, d4, Ent.row]; rfl); all_goals (intro hcnd; first | (exact absurd hcnd (by decide)) | skip)) | ((first | refine kH ?_ ?_ | refine kI ?_ ?_) <;> (intro hcnd; simp (decide := true) only [go_sem, reduceIte, reduceCtorEq, jA, jB, jC, jD, jE, jF, hcnd, c1, c2, c3, d4, Ent.row]))))
    rw [hno (fun e => e.form) c4]
  have d4 : decide (e.form = f.form) = true := by simpa using c4
  rcases Bool.eq_false_or_eq_true ((e.alts.length : Int) != (f.alts.length : Int)) with c5 | c5
  · (repeat' (first | refine kA ?_ | refine kB ?_ | ((first | (refine kC (N := 145) rfl (by kernel_rfl) ?_) | (apply kJ (id := 6) (N := 145) kpm4; kernel_rfl; rfl; kernel_rfl; (repeat (first | exact Picks.nil | (apply Picks.cons; rfl)))) | (apply kJ (id := 11) (N := 145) kpm5; kernel_rfl; rfl; kernel_rfl; (repeat (first | exact Picks.nil | (apply Picks.cons; rfl)))) | (apply kJ (id := 16) (N := 145) kpm5; kernel_rfl; rfl; kernel_rfl; (repeat (first | exact Picks.nil | (apply Picks.cons; rfl)))) | (apply kJ (id := 21) (N := 145) kpm5; kernel_rfl; rfl; kernel_rfl; (repeat (first | exact Picks.nil | (apply Picks.cons; rfl)))) | refine kD ?_ | refine kE ?_ | (refine kN (hS) (kP rfl) ?_) | (refine kO (hS) (kP rfl) ?_) | refine kF ?_); simp (decide := true) only [go_sem, reduceIte, reduceCtorEq, jA, jB, jC, jD, jE, jF, c1, c2, c3, d4, c5, Ent.row]) | (apply kG; (simp (decide := true) only [go_sem, reduceIte, reduceCtorEq, jA, jB, jC, jD, jE, jF, c1, c2, c3, d4, c5, Ent.row]; rfl); all_goals (intro hcnd; first | (exact absurd hcnd (by decide)) | skip)) | ((first | refine kH ?_ ?_ | refine kI ?_ ?_) <;> (intro hcnd; simp (decide := true) only [go_sem, reduceIte, reduceCtorEq, jA, jB, jC, jD, jE, jF, hcnd, c1, c2, c3, d4, c5, Ent.row]))))
    rw [hno (fun e => (e.alts.length : Int)) (by simpa using c5)]
  rcases Bool.eq_false_or_eq_true ((e.senses.length : Int) != (f.senses.length : Int)) with c6 | c6
  · (repeat' (first | refine kA ?_ | refine kB ?_ | ((first | (refine kC (N := 145) rfl (by kernel_rfl) ?_) | (apply kJ (id := 6) (N := 145) kpm4; kernel_rfl; rfl; kernel_rfl; (repeat (first | exact Picks.nil | (apply Picks.cons; rfl)))) | (apply kJ (id := 11) (N := 145) kpm5; kernel_rfl; rfl; kernel_rfl; (repeat (first | exact Picks.nil | (apply Picks.cons; rfl)))) | (apply kJ (id := 16) (N := 145) kpm5; kernel_rfl; rfl; kernel_rfl; (repeat (first | exact Picks.nil | (apply Picks.cons; rfl)))) | (apply kJ (id := 21) (N := 145) kpm5; kernel_rfl; rfl; kernel_rfl; (repeat (first | exact Picks.nil | (apply Picks.cons; rfl)))) | refine kD ?_ | refine kE ?_ | (refine kN (hS) (kP rfl) ?_) | (refine kO (hS) (kP rfl) ?_) | refine kF ?_); simp (decide := true) only [go_sem, reduceIte, reduceCtorEq, jA, jB, jC, jD, jE, jF, c1, c2, c3, d4, c5, c6, Ent.row]) | (apply kG; (simp (decide := true) only [go_sem, reduceIte, reduceCtorEq, jA, jB, jC, jD, jE, jF, c1, c2, c3, d4, c5, c6, Ent.row]; rfl); all_goals (intro hcnd; first | (exact absurd hcnd (by decide)) | skip)) | ((first | refine kH ?_ ?_ | refine kI ?_ ?_) <;> (intro hcnd; simp (decide := true) only [go_sem, reduceIte, reduceCtorEq, jA, jB, jC, jD, jE, jF, hcnd, c1, c2, c3, d4, c5, c6, Ent.row]))))
    rw [hno (fun e => (e.senses.length : Int)) (by simpa using c6)]
  rcases Bool.eq_false_or_eq_true ((e.links.length : Int) != (f.links.length : Int)) with c7 | c7
  · (repeat' (first | refine kA ?_ | refine kB ?_ | ((first | (refine kC (N := 145) rfl (by kernel_rfl) ?_) | (apply kJ (id := 6) (N := 145) kpm4; kernel_rfl; rfl; kernel_rfl; (repeat (first | exact Picks.nil | (apply Picks.cons; rfl)))) | (apply kJ (id := 11) (N := 145) kpm5; kernel_rfl; rfl; kernel_rfl; (repeat (first | exact Picks.nil | (apply Picks.cons; rfl)))) | (apply kJ (id := 16) (N := 145) kpm5; kernel_rfl; rfl; kernel_rfl; (repeat (first | exact Picks.nil | (apply Picks.cons; rfl)))) | (apply kJ (id := 21) (N := 145) kpm5; kernel_rfl; rfl; kernel_rfl; (repeat (first | exact Picks.nil | (apply Picks.cons; rfl)))) | refine kD ?_ | refine kE ?_ | (refine kN (hS) (kP rfl) ?_) | (refine kO (hS) (kP rfl) ?_) | refine kF ?_); simp (decide := true) only [go_sem, reduceIte, reduceCtorEq, jA, jB, jC, jD, jE, jF, c1, c2, c3, d4, c5, c6, c7, Ent.row]) | (apply kG; (simp (decide := true) only [go_sem, reduceIte, reduceCtorEq, jA, jB, jC, jD, jE, jF, c1, c2, c3, d4, c5, c6, c7, Ent.row]; rfl); all_goals (intro hcnd; first | (exact absurd hcnd (by decide)) | skip)) | ((first | refine kH ?_ ?_ | refine kI ?_ ?_) <;> (intro hcnd; simp (decide := true) only [go_sem, reduceIte, reduceCtorEq, jA, jB, jC, jD, jE, jF, hcnd, c1, c2, c3, d4, c5, c6, c7, Ent.row]))))
    rw [hno (fun e => (e.links.length : Int)) (by simpa using c7)]
  rcases Bool.eq_false_or_eq_true ((e.refs.length : Int) != (f.refs.length : Int)) with c8 | c8
  · (repeat' (first | refine kA ?_ | refine kB ?_ | ((first | (refine kC (N := 145) rfl (by kernel_rfl) ?_) | (apply kJ (id := 6) (N := 145) kpm4; kernel_rfl; rfl; kernel_rfl; (repeat (first | exact Picks.nil | (apply Picks.cons; rfl)))) | (apply kJ (id := 11) (N := 145) kpm5; kernel_rfl; rfl; kernel_rfl; (repeat (first | exact Picks.nil | (apply Picks.cons; rfl)))) | (apply kJ (id := 16) (N := 145) kpm5; kernel_rfl; rfl; kernel_rfl; (repeat (first | exact Picks.nil | (apply Picks.cons; rfl)))) | (apply kJ (id := 21) (N := 145) kpm5; kernel_rfl; rfl; kernel_rfl; (repeat (first | exact Picks.nil | (apply Picks.cons; rfl)))) | refine kD ?_ | refine kE ?_ | (refine kN (hS) (kP rfl) ?_) | (refine kO (hS) (kP rfl) ?_) | refine kF ?_); simp (decide := true) only [go_sem, reduceIte, reduceCtorEq, jA, jB, jC, jD, jE, jF, c1, c2, c3, d4, c5, c6, c7, c8, Ent.row]) | (apply kG; (simp (decide := true) only [go_sem, reduceIte, reduceCtorEq, jA, jB, jC, jD, jE, jF, c1, c2, c3, d4, c5, c6, c7, c8, Ent.row]; rfl); all_goals (intro hcnd; first | (exact absurd hcnd (by decide)) | skip)) | ((first | refine kH ?_ ?_ | refine kI ?_ ?_) <;> (intro hcnd; simp (decide := true) only [go_sem, reduceIte, reduceCtorEq, jA, jB, jC, jD, jE, jF, hcnd, c1, c2, c3, d4, c5, c6, c7, c8, Ent.row]))))
    rw [hno (fun e => (e.refs.length : Int)) (by simpa using c8)]
  (repeat' (first | refine kA ?_ | refine kB ?_ | ((first | (refine kC (N := 145) rfl (by kernel_rfl) ?_) | (apply kJ (id := 6) (N := 145) kpm4; kernel_rfl; rfl; kernel_rfl; (repeat (first | exact Picks.nil | (apply Picks.cons; rfl)))) | (apply kJ (id := 11) (N := 145) kpm5; kernel_rfl; rfl; kernel_rfl; (repeat (first | exact Picks.nil | (apply Picks.cons; rfl)))) | (apply kJ (id := 16) (N := 145) kpm5; kernel_rfl; rfl; kernel_rfl; (repeat (first | exact Picks.nil | (apply Picks.cons; rfl)))) | (apply kJ (id := 21) (N := 145) kpm5; kernel_rfl; rfl; kernel_rfl; (repeat (first | exact Picks.nil | (apply Picks.cons; rfl)))) | refine kD ?_ | refine kE ?_ | (refine kN (hS) (kP rfl) ?_) | (refine kO (hS) (kP rfl) ?_)); simp (decide := true) only [go_sem, reduceIte, reduceCtorEq, jA, jB, jC, jD, jE, jF, c1, c2, c3, d4, c5, c6, c7, c8, Ent.row]) | (apply kG; (simp (decide := true) only [go_sem, reduceIte, reduceCtorEq, jA, jB, jC, jD, jE, jF, c1, c2, c3, d4, c5, c6, c7, c8, Ent.row]; rfl); all_goals (intro hcnd; first | (exact absurd hcnd (by decide)) | skip)) | ((first | refine kH ?_ ?_ | refine kI ?_ ?_) <;> (intro hcnd; simp (decide := true) only [go_sem, reduceIte, reduceCtorEq, jA, jB, jC, jD, jE, jF, hcnd, c1, c2, c3, d4, c5, c6, c7, c8, Ent.row]))))
  have l5 : e.alts.length = f.alts.length := by simp at c5; omega
  have l6 : e.senses.length = f.senses.length := by simp at c6; omega
  have l7 : e.links.length = f.links.length := by simp at c7; omega
  have l8 : e.refs.length = f.refs.length := by simp at c8; omega
  refine dw_rngI e.alts (fun k => kn 145 [(2, .one (.bx 2 8 0 0)), (3, .one (.bx 3 8 0 0)), (5, dv (li k))] (ml [(2, [e.row]), (3, [f.row])])) (fun k => e.alts.take k = f.alts.take k) he.alts (kM rfl (by simp (decide := true) only [go_sem, reduceIte, reduceCtorEq, jA, jB, jC, jD, jE, jF]) (by simp (decide := true) only [go_sem, reduceIte, reduceCtorEq, jA, jB, jC, jD, jE, jF, Ent.row])) rfl ?_ ?_
  · intro k x hx hk hm htk hlt hw hi
    have hyk : k < f.alts.length := by have := l5; omega
    have hy : f.alts[k]? = some f.alts[k] := List.getElem?_eq_getElem hyk
    have hne : x ≠ f.alts[k] → e.alts ≠ f.alts := fun h g => by rw [g] at hx; rw [hx] at hy; injection hy with hy; exact h hy
    have hS2 := sameI_D x f.alts[k] (he.alt x hm)
    by_cases h4 : x = f.alts[k]
    · have h5 : decide (x = f.alts[k]) = true := by simpa using h4
      rw [h5] at hS2
      (repeat' (first | refine kA ?_ | refine kB ?_ | ((first | (refine kC (N := 145) rfl (by kernel_rfl) ?_) | (apply kJ (id := 6) (N := 145) kpm4; kernel_rfl; rfl; kernel_rfl; (repeat (first | exact Picks.nil | (apply Picks.cons; rfl)))) | (apply kJ (id := 11) (N := 145) kpm5; kernel_rfl; rfl; kernel_rfl; (repeat (first | exact Picks.nil | (apply Picks.cons; rfl)))) | (apply kJ (id := 16) (N := 145) kpm5; kernel_rfl; rfl; kernel_rfl; (repeat (first | exact Picks.nil | (apply Picks.cons; rfl)))) | (apply kJ (id := 21) (N := 145) kpm5; kernel_rfl; rfl; kernel_rfl; (repeat (first | exact Picks.nil | (apply Picks.cons; rfl)))) | refine kD ?_ | refine kE ?_ | (refine kN (hS2) (kP rfl) ?_) | (refine kO (hS2) (kP rfl) ?_) | refine kF ?_); simp (decide := true) only [go_sem, reduceIte, reduceCtorEq, jA, jB, jC, jD, jE, jF, hlt, hw, hx, hy, Ent.row]) | (apply kG; (simp (decide := true) only [go_sem, reduceIte, reduceCtorEq, jA, jB, jC, jD, jE, jF, hlt, hw, hx, hy, Ent.row]; rfl); all_goals (intro hcnd; first | (exact absurd hcnd (by decide)) | skip)) | ((first | refine kH ?_ ?_ | refine kI ?_ ?_) <;> (intro hcnd; simp (decide := true) only [go_sem, reduceIte, reduceCtorEq, jA, jB, jC, jD, jE, jF, hcnd, hlt, hw, hx, hy, Ent.row]))))
      exact ⟨by rw [htk, hi, h4, ← take_snoc hy], kM rfl (by simp (decide := true) only [go_sem, reduceIte, reduceCtorEq, jA, jB, jC, jD, jE, jF]) (by simp (decide := true) only [go_sem, reduceIte, reduceCtorEq, jA, jB, jC, jD, jE, jF, Ent.row])⟩
    · have h5 : decide (x = f.alts[k]) = false := by simpa using h4
      rw [h5] at hS2
      (repeat' (first | refine kA ?_ | refine kB ?_ | ((first | (refine kC (N := 145) rfl (by kernel_rfl) ?_) | (apply kJ (id := 6) (N := 145) kpm4; kernel_rfl; rfl; kernel_rfl; (repeat (first | exact Picks.nil | (apply Picks.cons; rfl)))) | (apply kJ (id := 11) (N := 145) kpm5; kernel_rfl; rfl; kernel_rfl; (repeat (first | exact Picks.nil | (apply Picks.cons; rfl)))) | (apply kJ (id := 16) (N := 145) kpm5; kernel_rfl; rfl; kernel_rfl; (repeat (first | exact Picks.nil | (apply Picks.cons; rfl)))) | (apply kJ (id := 21) (N := 145) kpm5; kernel_rfl; rfl; kernel_rfl; (repeat (first | exact Picks.nil | (apply Picks.cons; rfl)))) | refine kD ?_ | refine kE ?_ | (refine kN (hS2) (kP rfl) ?_) | (refine kO (hS2) (kP rfl) ?_) | refine kF ?_); simp (decide := true) only [go_sem, reduceIte, reduceCtorEq, jA, jB, jC, jD, jE, jF, hlt, hw, hx, hy, Ent.row]) | (apply kG; (simp (decide := true) only [go_sem, reduceIte, reduceCtorEq, jA, jB, jC, jD, jE, jF, hlt, hw, hx, hy, Ent.row]; rfl); all_goals (intro hcnd; first | (exact absurd hcnd (by decide)) | skip)) | ((first | refine kH ?_ ?_ | refine kI ?_ ?_) <;> (intro hcnd; simp (decide := true) only [go_sem, reduceIte, reduceCtorEq, jA, jB, jC, jD, jE, jF, hcnd, hlt, hw, hx, hy, Ent.row]))))
      rw [hno (fun e => e.alts) (hne h4)]
  intro hlt hi
  rw [List.take_length, l5, List.take_length] at hi
  have q5 := hi
  (repeat' (first | refine kA ?_ | refine kB ?_ | ((first | (refine kC (N := 145) rfl (by kernel_rfl) ?_) | (apply kJ (id := 6) (N := 145) kpm4; kernel_rfl; rfl; kernel_rfl; (repeat (first | exact Picks.nil | (apply Picks.cons; rfl)))) | (apply kJ (id := 11) (N := 145) kpm5; kernel_rfl; rfl; kernel_rfl; (repeat (first | exact Picks.nil | (apply Picks.cons; rfl)))) | (apply kJ (id := 16) (N := 145) kpm5; kernel_rfl; rfl; kernel_rfl; (repeat (first | exact Picks.nil | (apply Picks.cons; rfl)))) | (apply kJ (id := 21) (N := 145) kpm5; kernel_rfl; rfl; kernel_rfl; (repeat (first | exact Picks.nil | (apply Picks.cons; rfl)))) | refine kD ?_ | refine kE ?_); simp (decide := true) only [go_sem, reduceIte, reduceCtorEq, jA, jB, jC, jD, jE, jF, hlt, Ent.row]) | (apply kG; (simp (decide := true) only [go_sem, reduceIte, reduceCtorEq, jA, jB, jC, jD, jE, jF, hlt, Ent.row]; rfl); all_goals (intro hcnd; first | (exact absurd hcnd (by decide)) | skip)) | ((first | refine kH ?_ ?_ | refine kI ?_ ?_) <;> (intro hcnd; simp (decide := true) only [go_sem, reduceIte, reduceCtorEq, jA, jB, jC, jD, jE, jF, hcnd, hlt, Ent.row]))))
  refine dw_rngI e.senses (fun k => kn 145 [(2, .one (.bx 2 8 0 0)), (3, .one (.bx 3 8 0 0)), (6, dv (li k))] (ml [(2, [e.row]), (3, [f.row])])) (fun k => e.senses.take k = f.senses.take k) he.senses (kM rfl (by simp (decide := true) only [go_sem, reduceIte, reduceCtorEq, jA, jB, jC, jD, jE, jF]) (by simp (decide := true) only [go_sem, reduceIte, reduceCtorEq, jA, jB, jC, jD, jE, jF, Ent.row])) rfl ?_ ?_
  · intro k x hx hk hm htk hlt hw hi
    have hyk : k < f.senses.length := by have := l6; omega
    have hy : f.senses[k]? = some f.senses[k] := List.getElem?_eq_getElem hyk
    have hne : x ≠ f.senses[k] → e.senses ≠ f.senses := fun h g => by rw [g] at hx; rw [hx] at hy; injection hy with hy; exact h hy
    have hle := sns_eq x f.senses[k]
    by_cases h4 : x = f.senses[k]
    · have h5 : decide (x = f.senses[k]) = true := by simpa using h4
      (repeat' (first | refine kA ?_ | refine kB ?_ | ((first | (refine kC (N := 145) rfl (by kernel_rfl) ?_) | (apply kJ (id := 6) (N := 145) kpm4; kernel_rfl; rfl; kernel_rfl; (repeat (first | exact Picks.nil | (apply Picks.cons; rfl)))) | (apply kJ (id := 11) (N := 145) kpm5; kernel_rfl; rfl; kernel_rfl; (repeat (first | exact Picks.nil | (apply Picks.cons; rfl)))) | (apply kJ (id := 16) (N := 145) kpm5; kernel_rfl; rfl; kernel_rfl; (repeat (first | exact Picks.nil | (apply Picks.cons; rfl)))) | (apply kJ (id := 21) (N := 145) kpm5; kernel_rfl; rfl; kernel_rfl; (repeat (first | exact Picks.nil | (apply Picks.cons; rfl)))) | refine kD ?_ | refine kE ?_ | refine kF ?_); simp (decide := true) only [go_sem, reduceIte, reduceCtorEq, jA, jB, jC, jD, jE, jF, hlt, hw, hx, hy, hle, h5, Sns.enc, Ent.row]) | (apply kG; (simp (decide := true) only [go_sem, reduceIte, reduceCtorEq, jA, jB, jC, jD, jE, jF, hlt, hw, hx, hy, hle, h5, Sns.enc, Ent.row]; rfl); all_goals (intro hcnd; first | (exact absurd hcnd (by decide)) | skip)) | ((first | refine kH ?_ ?_ | refine kI ?_ ?_) <;> (intro hcnd; simp (decide := true) only [go_sem, reduceIte, reduceCtorEq, jA, jB, jC, jD, jE, jF, hcnd, hlt, hw, hx, hy, hle, h5, Sns.enc, Ent.row]))))
      exact ⟨by rw [htk, hi, h4, ← take_snoc hy], kM rfl (by simp (decide := true) only [go_sem, reduceIte, reduceCtorEq, jA, jB, jC, jD, jE, jF]) (by simp (decide := true) only [go_sem, reduceIte, reduceCtorEq, jA, jB, jC, jD, jE, jF, Ent.row])⟩
    · have h5 : decide (x = f.senses[k]) = false := by simpa using h4
      (repeat' (first | refine kA ?_ | refine kB ?_ | ((first | (refine kC (N := 145) rfl (by kernel_rfl) ?_) | (apply kJ (id := 6) (N := 145) kpm4; kernel_rfl; rfl; kernel_rfl; (repeat (first | exact Picks.nil | (apply Picks.cons; rfl)))) | (apply kJ (id := 11) (N := 145) kpm5; kernel_rfl; rfl; kernel_rfl; (repeat (first | exact Picks.nil | (apply Picks.cons; rfl)))) | (apply kJ (id := 16) (N := 145) kpm5; kernel_rfl; rfl; kernel_rfl; (repeat (first | exact Picks.nil | (apply Picks.cons; rfl)))) | (apply kJ (id := 21) (N := 145) kpm5; kernel_rfl; rfl; kernel_rfl; (repeat (first | exact Picks.nil | (apply Picks.cons; rfl)))) | refine kD ?_ | refine kE ?_ | refine kF ?_); simp (decide := true) only [go_sem, reduceIte, reduceCtorEq, jA, jB, jC, jD, jE, jF, hlt, hw, hx, hy, hle, h5, Sns.enc, Ent.row]) | (apply kG; (simp (decide := true) only [go_sem, reduceIte, reduceCtorEq, jA, jB, jC, jD, jE, jF, hlt, hw, hx, hy, hle, h5, Sns.enc, Ent.row]; rfl); all_goals (intro hcnd; first | (exact absurd hcnd (by decide)) | skip)) | ((first | refine kH ?_ ?_ | refine kI ?_ ?_) <;> (intro hcnd; simp (decide := true) only [go_sem, reduceIte, reduceCtorEq, jA, jB, jC, jD, jE, jF, hcnd, hlt, hw, hx, hy, hle, h5, Sns.enc, Ent.row]))))
      rw [hno (fun e => e.senses) (hne h4)]
  intro hlt hi
  rw [List.take_length, l6, List.take_length] at hi
  have q6 := hi
  (repeat' (first | refine kA ?_ | refine kB ?_ | ((first | (refine kC (N := 145) rfl (by kernel_rfl) ?_) | (apply kJ (id := 6) (N := 145) kpm4; kernel_rfl; rfl; kernel_rfl; (repeat (first | exact Picks.nil | (apply Picks.cons; rfl)))) | (apply kJ (id := 11) (N := 145) kpm5; kernel_rfl; rfl; kernel_rfl; (repeat (first | exact Picks.nil | (apply Picks.cons; rfl)))) | (apply kJ (id := 16) (N := 145) kpm5; kernel_rfl; rfl; kernel_rfl; (repeat (first | exact Picks.nil | (apply Picks.cons; rfl)))) | (apply kJ (id := 21) (N := 145) kpm5; kernel_rfl; rfl; kernel_rfl; (repeat (first | exact Picks.nil | (apply Picks.cons; rfl)))) | refine kD ?_ | refine kE ?_); simp (decide := true) only [go_sem, reduceIte, reduceCtorEq, jA, jB, jC, jD, jE, jF, hlt, Ent.row]) | (apply kG; (simp (decide := true) only [go_sem, reduceIte, reduceCtorEq, jA, jB, jC, jD, jE, jF, hlt, Ent.row]; rfl); all_goals (intro hcnd; first | (exact absurd hcnd (by decide)) | skip)) | ((first | refine kH ?_ ?_ | refine kI ?_ ?_) <;> (intro hcnd; simp (decide := true) only [go_sem, reduceIte, reduceCtorEq, jA, jB, jC, jD, jE, jF, hcnd, hlt, Ent.row]))))
  refine dw_rngI e.links (fun k => kn 145 [(2, .one (.bx 2 8 0 0)), (3, .one (.bx 3 8 0 0)), (7, dv (li k))] (ml [(2, [e.row]), (3, [f.row])])) (fun k => e.links.take k = f.links.take k) he.links (kM rfl (by simp (decide := true) only [go_sem, reduceIte, reduceCtorEq, jA, jB, jC, jD, jE, jF]) (by simp (decide := true) only [go_sem, reduceIte, reduceCtorEq, jA, jB, jC, jD, jE, jF, Ent.row])) rfl ?_ ?_
  · intro k x hx hk hm htk hlt hw hi
    have hyk : k < f.links.length := by have := l7; omega
    have hy : f.links[k]? = some f.links[k] := List.getElem?_eq_getElem hyk
    have hne : x ≠ f.links[k] → e.links ≠ f.links := fun h g => by rw [g] at hx; rw [hx] at hy; injection hy with hy; exact h hy
    have hle := lnk_eq x f.links[k]
    by_cases h4 : x = f.links[k]
    · have h5 : decide (x = f.links[k]) = true := by simpa using h4
      (repeat' (first | refine kA ?_ | refine kB ?_ | ((first | (refine kC (N := 145) rfl (by kernel_rfl) ?_) | (apply kJ (id := 6) (N := 145) kpm4; kernel_rfl; rfl; kernel_rfl; (repeat (first | exact Picks.nil | (apply Picks.cons; rfl)))) | (apply kJ (id := 11) (N := 145) kpm5; kernel_rfl; rfl; kernel_rfl; (repeat (first | exact Picks.nil | (apply Picks.cons; rfl)))) | (apply kJ (id := 16) (N := 145) kpm5; kernel_rfl; rfl; kernel_rfl; (repeat (first | exact Picks.nil | (apply Picks.cons; rfl)))) | (apply kJ (id := 21) (N := 145) kpm5; kernel_rfl; rfl; kernel_rfl; (repeat (first | exact Picks.nil | (apply Picks.cons; rfl)))) | refine kD ?_ | refine kE ?_ | refine kF ?_); simp (decide := true) only [go_sem, reduceIte, reduceCtorEq, jA, jB, jC, jD, jE, jF, hlt, hw, hx, hy, hle, h5, Lnk.enc, Ent.row]) | (apply kG; (simp (decide := true) only [go_sem, reduceIte, reduceCtorEq, jA, jB, jC, jD, jE, jF, hlt, hw, hx, hy, hle, h5, Lnk.enc, Ent.row]; rfl); all_goals (intro hcnd; first | (exact absurd hcnd (by decide)) | skip)) | ((first | refine kH ?_ ?_ | refine kI ?_ ?_) <;> (intro hcnd; simp (decide := true) only [go_sem, reduceIte, reduceCtorEq, jA, jB, jC, jD, jE, jF, hcnd, hlt, hw, hx, hy, hle, h5, Lnk.enc, Ent.row]))))
      exact ⟨by rw [htk, hi, h4, ← take_snoc hy], kM rfl (by simp (decide := true) only [go_sem, reduceIte, reduceCtorEq, jA, jB, jC, jD, jE, jF]) (by simp (decide := true) only [go_sem, reduceIte, reduceCtorEq, jA, jB, jC, jD, jE, jF, Ent.row])⟩
    · have h5 : decide (x = f.links[k]) = false := by simpa using h4
      (repeat' (first | refine kA ?_ | refine kB ?_ | ((first | (refine kC (N := 145) rfl (by kernel_rfl) ?_) | (apply kJ (id := 6) (N := 145) kpm4; kernel_rfl; rfl; kernel_rfl; (repeat (first | exact Picks.nil | (apply Picks.cons; rfl)))) | (apply kJ (id := 11) (N := 145) kpm5; kernel_rfl; rfl; kernel_rfl; (repeat (first | exact Picks.nil | (apply Picks.cons; rfl)))) | (apply kJ (id := 16) (N := 145) kpm5; kernel_rfl; rfl; kernel_rfl; (repeat (first | exact Picks.nil | (apply Picks.cons; rfl)))) | (apply kJ (id := 21) (N := 145) kpm5; kernel_rfl; rfl; kernel_rfl; (repeat (first | exact Picks.nil | (apply Picks.cons; rfl)))) | refine kD ?_ | refine kE ?_ | refine kF ?_); simp (decide := true) only [go_sem, reduceIte, reduceCtorEq, jA, jB, jC, jD, jE, jF, hlt, hw, hx, hy, hle, h5, Lnk.enc, Ent.row]) | (apply kG; (simp (decide := true) only [go_sem, reduceIte, reduceCtorEq, jA, jB, jC, jD, jE, jF, hlt, hw, hx, hy, hle, h5, Lnk.enc, Ent.row]; rfl); all_goals (intro hcnd; first | (exact absurd hcnd (by decide)) | skip)) | ((first | refine kH ?_ ?_ | refine kI ?_ ?_) <;> (intro hcnd; simp (decide := true) only [go_sem, reduceIte, reduceCtorEq, jA, jB, jC, jD, jE, jF, hcnd, hlt, hw, hx, hy, hle, h5, Lnk.enc, Ent.row]))))
      rw [hno (fun e => e.links) (hne h4)]
  intro hlt hi
  rw [List.take_length, l7, List.take_length] at hi
  have q7 := hi
  (repeat' (first | refine kA ?_ | refine kB ?_ | ((first | (refine kC (N := 145) rfl (by kernel_rfl) ?_) | (apply kJ (id := 6) (N := 145) kpm4; kernel_rfl; rfl; kernel_rfl; (repeat (first | exact Picks.nil | (apply Picks.cons; rfl)))) | (apply kJ (id := 11) (N := 145) kpm5; kernel_rfl; rfl; kernel_rfl; (repeat (first | exact Picks.nil | (apply Picks.cons; rfl)))) | (apply kJ (id := 16) (N := 145) kpm5; kernel_rfl; rfl; kernel_rfl; (repeat (first | exact Picks.nil | (apply Picks.cons; rfl)))) | (apply kJ (id := 21) (N := 145) kpm5; kernel_rfl; rfl; kernel_rfl; (repeat (first | exact Picks.nil | (apply Picks.cons; rfl)))) | refine kD ?_ | refine kE ?_); simp (decide := true) only [go_sem, reduceIte, reduceCtorEq, jA, jB, jC, jD, jE, jF, hlt, Ent.row]) | (apply kG; (simp (decide := true) only [go_sem, reduceIte, reduceCtorEq, jA, jB, jC, jD, jE, jF, hlt, Ent.row]; rfl); all_goals (intro hcnd; first | (exact absurd hcnd (by decide)) | skip)) | ((first | refine kH ?_ ?_ | refine kI ?_ ?_) <;> (intro hcnd; simp (decide := true) only [go_sem, reduceIte, reduceCtorEq, jA, jB, jC, jD, jE, jF, hcnd, hlt, Ent.row]))))
  refine dw_rngI e.refs (fun k => kn 145 [(2, .one (.bx 2 8 0 0)), (3, .one (.bx 3 8 0 0)), (8, dv (li k))] (ml [(2, [e.row]), (3, [f.row])])) (fun k => e.refs.take k = f.refs.take k) he.refs (kM rfl (by simp (decide := true) only [go_sem, reduceIte, reduceCtorEq, jA, jB, jC, jD, jE, jF]) (by simp (decide := true) only [go_sem, reduceIte, reduceCtorEq, jA, jB, jC, jD, jE, jF, Ent.row])) rfl ?_ ?_
  · intro k x hx hk hm htk hlt hw hi
    have hyk : k < f.refs.length := by have := l8; omega
    have hy : f.refs[k]? = some f.refs[k] := List.getElem?_eq_getElem hyk
    have hne : x ≠ f.refs[k] → e.refs ≠ f.refs := fun h g => by rw [g] at hx; rw [hx] at hy; injection hy with hy; exact h hy
    have hle := lnk_eq x f.refs[k]
    by_cases h4 : x = f.refs[k]
    · have h5 : decide (x = f.refs[k]) = true := by simpa using h4
      (repeat' (first | refine kA ?_ | refine kB ?_ | ((first | (refine kC (N := 145) rfl (by kernel_rfl) ?_) | (apply kJ (id := 6) (N := 145) kpm4; kernel_rfl; rfl; kernel_rfl; (repeat (first | exact Picks.nil | (apply Picks.cons; rfl)))) | (apply kJ (id := 11) (N := 145) kpm5; kernel_rfl; rfl; kernel_rfl; (repeat (first | exact Picks.nil | (apply Picks.cons; rfl)))) | (apply kJ (id := 16) (N := 145) kpm5; kernel_rfl; rfl; kernel_rfl; (repeat (first | exact Picks.nil | (apply Picks.cons; rfl)))) | (apply kJ (id := 21) (N := 145) kpm5; kernel_rfl; rfl; kernel_rfl; (repeat (first | exact Picks.nil | (apply Picks.cons; rfl)))) | refine kD ?_ | refine kE ?_ | refine kF ?_); simp (decide := true) only [go_sem, reduceIte, reduceCtorEq, jA, jB, jC, jD, jE, jF, hlt, hw, hx, hy, hle, h5, Lnk.enc, Ent.row]) | (apply kG; (simp (decide := true) only [go_sem, reduceIte, reduceCtorEq, jA, jB, jC, jD, jE, jF, hlt, hw, hx, hy, hle, h5, Lnk.enc, Ent.row]; rfl); all_goals (intro hcnd; first | (exact absurd hcnd (by decide)) | skip)) | ((first | refine kH ?_ ?_ | refine kI ?_ ?_) <;> (intro hcnd; simp (decide := true) only [go_sem, reduceIte, reduceCtorEq, jA, jB, jC, jD, jE, jF, hcnd, hlt, hw, hx, hy, hle, h5, Lnk.enc, Ent.row]))))
      exact ⟨by rw [htk, hi, h4, ← take_snoc hy], kM rfl (by simp (decide := true) only [go_sem, reduceIte, reduceCtorEq, jA, jB, jC, jD, jE, jF]) (by simp (decide := true) only [go_sem, reduceIte, reduceCtorEq, jA, jB, jC, jD, jE, jF, Ent.row])⟩
    · have h5 : decide (x = f.refs[k]) = false := by simpa using h4
      (repeat' (first | refine kA ?_ | refine kB ?_ | ((first | (refine kC (N := 145) rfl (by kernel_rfl) ?_) | (apply kJ (id := 6) (N := 145) kpm4; kernel_rfl; rfl; kernel_rfl; (repeat (first | exact Picks.nil | (apply Picks.cons; rfl)))) | (apply kJ (id := 11) (N := 145) kpm5; kernel_rfl; rfl; kernel_rfl; (repeat (first | exact Picks.nil | (apply Picks.cons; rfl)))) | (apply kJ (id := 16) (N := 145) kpm5; kernel_rfl; rfl; kernel_rfl; (repeat (first | exact Picks.nil | (apply Picks.cons; rfl)))) | (apply kJ (id := 21) (N := 145) kpm5; kernel_rfl; rfl; kernel_rfl; (repeat (first | exact Picks.nil | (apply Picks.cons; rfl)))) | refine kD ?_ | refine kE ?_ | refine kF ?_); simp (decide := true) only [go_sem, reduceIte, reduceCtorEq, jA, jB, jC, jD, jE, jF, hlt, hw, hx, hy, hle, h5, Lnk.enc, Ent.row]) | (apply kG; (simp (decide := true) only [go_sem, reduceIte, reduceCtorEq, jA, jB, jC, jD, jE, jF, hlt, hw, hx, hy, hle, h5, Lnk.enc, Ent.row]; rfl); all_goals (intro hcnd; first | (exact absurd hcnd (by decide)) | skip)) | ((first | refine kH ?_ ?_ | refine kI ?_ ?_) <;> (intro hcnd; simp (decide := true) only [go_sem, reduceIte, reduceCtorEq, jA, jB, jC, jD, jE, jF, hcnd, hlt, hw, hx, hy, hle, h5, Lnk.enc, Ent.row]))))
      rw [hno (fun e => e.refs) (hne h4)]
  intro hlt hi
  rw [List.take_length, l8, List.take_length] at hi
  have q8 := hi
  (repeat' (first | refine kA ?_ | refine kB ?_ | ((first | (refine kC (N := 145) rfl (by kernel_rfl) ?_) | (apply kJ (id := 6) (N := 145) kpm4; kernel_rfl; rfl; kernel_rfl; (repeat (first | exact Picks.nil | (apply Picks.cons; rfl)))) | (apply kJ (id := 11) (N := 145) kpm5; kernel_rfl; rfl; kernel_rfl; (repeat (first | exact Picks.nil | (apply Picks.cons; rfl)))) | (apply kJ (id := 16) (N := 145) kpm5; kernel_rfl; rfl; kernel_rfl; (repeat (first | exact Picks.nil | (apply Picks.cons; rfl)))) | (apply kJ (id := 21) (N := 145) kpm5; kernel_rfl; rfl; kernel_rfl; (repeat (first | exact Picks.nil | (apply Picks.cons; rfl)))) | refine kD ?_ | refine kE ?_ | refine kF ?_); simp (decide := true) only [go_sem, reduceIte, reduceCtorEq, jA, jB, jC, jD, jE, jF, hlt, Ent.row]) | (apply kG; (simp (decide := true) only [go_sem, reduceIte, reduceCtorEq, jA, jB, jC, jD, jE, jF, hlt, Ent.row]; rfl); all_goals (intro hcnd; first | (exact absurd hcnd (by decide)) | skip)) | ((first | refine kH ?_ ?_ | refine kI ?_ ?_) <;> (intro hcnd; simp (decide := true) only [go_sem, reduceIte, reduceCtorEq, jA, jB, jC, jD, jE, jF, hcnd, hlt, Ent.row]))))
  have : e = f := by
    cases e; cases f
    simp at c1 c2 c3 c4 q5 q6 q7 q8
    simp [c1, c2, c3, c4, q5, q6, q7, q8]
  simp [this]

set_option maxRecDepth 10000 in

set_option maxHeartbeats 16000000 in
theorem same_D (e f : Ent) : DCalls Tryd.prog 29 [.agg e.row, .agg f.row] (dv (lb (decide (e = f)))) := by
  refine dcalls_grant (p := OkE e) (by kernel_rfl) (fun w K h => ?_) fun he => ?_
  · obtain ⟨v, hv⟩ := h (.agg e.row) (by simp)
    exact okE_of hv
  have hS := eqI_D e.form f.form he.form
  have h1 := eqF_D e.alts f.alts he.alts he.alt
  have h2 := eqS_D e.senses f.senses he.senses
  have h3 := eqL_D e.links f.links he.links
  have h4 := eqR_D e.refs f.refs he.refs
  have hno : ∀ {α : Type} (g : Ent → α), g e ≠ g f → decide (e = f) = false := fun g h => by simp; exact fun h2 => h (by rw [h2])
  refine dcalls (N := 58) (rs := [.tmp 4]) (by kernel_rfl) Tryd.func29 rfl rfl rfl (by simp) ?_
  rcases Bool.eq_false_or_eq_true (e.id != f.id) with c1 | c1
  · (repeat' (first | refine kA ?_ | refine kB ?_ | ((first | (refine kC (N := 58) rfl (by kernel_rfl) ?_) | refine kD ?_ | refine kE ?_ | (refine kN (hS) (kP rfl) ?_) | (refine kO (hS) (kP rfl) ?_) | refine kF ?_); simp (decide := true) only [go_sem, reduceIte, reduceCtorEq, jA, jB, jC, jD, jE, jF, c1, Ent.row]) | (apply kG; (simp (decide := true) only [go_sem, reduceIte, reduceCtorEq, jA, jB, jC, jD, jE, jF, c1, Ent.row]; rfl); all_goals (intro hcnd; first | (exact absurd hcnd (by decide)) | skip)) | ((first | refine kH ?_ ?_ | refine kI ?_ ?_) <;> (intro hcnd; simp (decide := true) only [go_sem, reduceIte, reduceCtorEq, jA, jB, jC, jD, jE, jF, hcnd, c1, Ent.row]))))
    rw [hno (fun e => e.id) (by simpa using c1)]
  rcases Bool.eq_false_or_eq_true (e.cls != f.cls) with c2 | c2
  · (repeat' (first | refine kA ?_ | refine kB ?_ | ((first | (refine kC (N := 58) rfl (by kernel_rfl) ?_) | refine kD ?_ | refine kE ?_ | (refine kN (hS) (kP rfl) ?_) | (refine kO (hS) (kP rfl) ?_) | refine kF ?_); simp (decide := true) only [go_sem, reduceIte, reduceCtorEq, jA, jB, jC, jD, jE, jF, c1, c2, Ent.row]) | (apply kG; (simp (decide := true) only [go_sem, reduceIte, reduceCtorEq, jA, jB, jC, jD, jE, jF, c1, c2, Ent.row]; rfl); all_goals (intro hcnd; first | (exact absurd hcnd (by decide)) | skip)) | ((first | refine kH ?_ ?_ | refine kI ?_ ?_) <;> (intro hcnd; simp (decide := true) only [go_sem, reduceIte, reduceCtorEq, jA, jB, jC, jD, jE, jF, hcnd, c1, c2, Ent.row]))))
    rw [hno (fun e => e.cls) (by simpa using c2)]
  rcases Bool.eq_false_or_eq_true (e.main != f.main) with c3 | c3
  · (repeat' (first | refine kA ?_ | refine kB ?_ | ((first | (refine kC (N := 58) rfl (by kernel_rfl) ?_) | refine kD ?_ | refine kE ?_ | (refine kN (hS) (kP rfl) ?_) | (refine kO (hS) (kP rfl) ?_) | refine kF ?_); simp (decide := true) only [go_sem, reduceIte, reduceCtorEq, jA, jB, jC, jD, jE, jF, c1, c2, c3, Ent.row]) | (apply kG; (simp (decide := true) only [go_sem, reduceIte, reduceCtorEq, jA, jB, jC, jD, jE, jF, c1, c2, c3, Ent.row]; rfl); all_goals (intro hcnd; first | (exact absurd hcnd (by decide)) | skip)) | ((first | refine kH ?_ ?_ | refine kI ?_ ?_) <;> (intro hcnd; simp (decide := true) only [go_sem, reduceIte, reduceCtorEq, jA, jB, jC, jD, jE, jF, hcnd, c1, c2, c3, Ent.row]))))
    rw [hno (fun e => e.main) (by simpa using c3)]
  by_cases c4 : e.form = f.form
  rotate_left
  · have d4 : decide (e.form = f.form) = false := by simpa using c4
    (repeat' (first | refine kA ?_ | refine kB ?_ | ((first | (refine kC (N := 58) rfl (by kernel_rfl) ?_) | refine kD ?_ | refine kE ?_ | (refine kN (hS) (kP rfl) ?_) | (refine kO (hS) (kP rfl) ?_) | refine kF ?_); simp (decide := true) only [go_sem, reduceIte, reduceCtorEq, jA, jB, jC, jD, jE, jF, c1, c2, c3, d4, Ent.row]) | (apply kG; (simp (decide := true) only [go_sem, reduceIte, reduceCtorEq, jA, jB, jC, jD, jE, jF, c1, c2, c3, d4, Ent.row]; rfl); all_goals (intro hcnd; first | (exact absurd hcnd (by decide)) | skip)) | ((first | refine kH ?_ ?_ | refine kI ?_ ?_) <;> (intro hcnd; simp (decide := true) only [go_sem, reduceIte, reduceCtorEq, jA, jB, jC, jD, jE, jF, hcnd, c1, c2, c3, d4, Ent.row]))))
    rw [hno (fun e => e.form) c4]
  have d4 : decide (e.form = f.form) = true := by simpa using c4
  by_cases c5 : e.alts = f.alts
  rotate_left
  · have d5 : decide (e.alts = f.alts) = false := by simpa using c5
    (repeat' (first | refine kA ?_ | refine kB ?_ | ((first | (refine kC (N := 58) rfl (by kernel_rfl) ?_) | refine kD ?_ | refine kE ?_ | (refine kN (hS) (kP rfl) ?_) | (refine kO (hS) (kP rfl) ?_) | (refine kN (h1) (kP rfl) ?_) | (refine kO (h1) (kP rfl) ?_) | refine kF ?_); simp (decide := true) only [go_sem, reduceIte, reduceCtorEq, jA, jB, jC, jD, jE, jF, c1, c2, c3, d4, d5, Ent.row]) | (apply kG; (simp (decide := true) only [go_sem, reduceIte, reduceCtorEq, jA, jB, jC, jD, jE, jF, c1, c2, c3, d4, d5, Ent.row]; rfl); all_goals (intro hcnd; first | (exact absurd hcnd (by decide)) | skip)) | ((first | refine kH ?_ ?_ | refine kI ?_ ?_) <;> (intro hcnd; simp (decide := true) only [go_sem, reduceIte, reduceCtorEq, jA, jB, jC, jD, jE, jF, hcnd, c1, c2, c3, d4, d5, Ent.row]))))
    rw [hno (fun e => e.alts) c5]
  have d5 : decide (e.alts = f.alts) = true := by simpa using c5
  by_cases c6 : e.senses = f.senses
  rotate_left
  · have d6 : decide (e.senses = f.senses) = false := by simpa using c6
    (repeat' (first | refine kA ?_ | refine kB ?_ | ((first | (refine kC (N := 58) rfl (by kernel_rfl) ?_) | refine kD ?_ | refine kE ?_ | (refine kN (hS) (kP rfl) ?_) | (refine kO (hS) (kP rfl) ?_) | (refine kN (h1) (kP rfl) ?_) | (refine kO (h1) (kP rfl) ?_) | (refine kN (h2) (kP rfl) ?_) | (refine kO (h2) (kP rfl) ?_) | refine kF ?_); simp (decide := true) only [go_sem, reduceIte, reduceCtorEq, jA, jB, jC, jD, jE, jF, c1, c2, c3, d4, d5, d6, Ent.row]) | (apply kG; (simp (decide := true) only [go_sem, reduceIte, reduceCtorEq, jA, jB, jC, jD, jE, jF, c1, c2, c3, d4, d5, d6, Ent.row]; rfl); all_goals (intro hcnd; first | (exact absurd hcnd (by decide)) | skip)) | ((first | refine kH ?_ ?_ | refine kI ?_ ?_) <;> (intro hcnd; simp (decide := true) only [go_sem, reduceIte, reduceCtorEq, jA, jB, jC, jD, jE, jF, hcnd, c1, c2, c3, d4, d5, d6, Ent.row]))))
    rw [hno (fun e => e.senses) c6]
  have d6 : decide (e.senses = f.senses) = true := by simpa using c6
  by_cases c7 : e.links = f.links
  rotate_left
  · have d7 : decide (e.links = f.links) = false := by simpa using c7
    (repeat' (first | refine kA ?_ | refine kB ?_ | ((first | (refine kC (N := 58) rfl (by kernel_rfl) ?_) | refine kD ?_ | refine kE ?_ | (refine kN (hS) (kP rfl) ?_) | (refine kO (hS) (kP rfl) ?_) | (refine kN (h1) (kP rfl) ?_) | (refine kO (h1) (kP rfl) ?_) | (refine kN (h2) (kP rfl) ?_) | (refine kO (h2) (kP rfl) ?_) | (refine kN (h3) (kP rfl) ?_) | (refine kO (h3) (kP rfl) ?_) | refine kF ?_); simp (decide := true) only [go_sem, reduceIte, reduceCtorEq, jA, jB, jC, jD, jE, jF, c1, c2, c3, d4, d5, d6, d7, Ent.row]) | (apply kG; (simp (decide := true) only [go_sem, reduceIte, reduceCtorEq, jA, jB, jC, jD, jE, jF, c1, c2, c3, d4, d5, d6, d7, Ent.row]; rfl); all_goals (intro hcnd; first | (exact absurd hcnd (by decide)) | skip)) | ((first | refine kH ?_ ?_ | refine kI ?_ ?_) <;> (intro hcnd; simp (decide := true) only [go_sem, reduceIte, reduceCtorEq, jA, jB, jC, jD, jE, jF, hcnd, c1, c2, c3, d4, d5, d6, d7, Ent.row]))))
    rw [hno (fun e => e.links) c7]
  have d7 : decide (e.links = f.links) = true := by simpa using c7
  (repeat' (first | refine kA ?_ | refine kB ?_ | ((first | (refine kC (N := 58) rfl (by kernel_rfl) ?_) | refine kD ?_ | refine kE ?_ | (refine kN (hS) (kP rfl) ?_) | (refine kO (hS) (kP rfl) ?_) | (refine kN (h1) (kP rfl) ?_) | (refine kO (h1) (kP rfl) ?_) | (refine kN (h2) (kP rfl) ?_) | (refine kO (h2) (kP rfl) ?_) | (refine kN (h3) (kP rfl) ?_) | (refine kO (h3) (kP rfl) ?_) | (refine kN (h4) (kP rfl) ?_) | (refine kO (h4) (kP rfl) ?_) | refine kF ?_); simp (decide := true) only [go_sem, reduceIte, reduceCtorEq, jA, jB, jC, jD, jE, jF, c1, c2, c3, d4, d5, d6, d7, Ent.row]) | (apply kG; (simp (decide := true) only [go_sem, reduceIte, reduceCtorEq, jA, jB, jC, jD, jE, jF, c1, c2, c3, d4, d5, d6, d7, Ent.row]; rfl); all_goals (intro hcnd; first | (exact absurd hcnd (by decide)) | skip)) | ((first | refine kH ?_ ?_ | refine kI ?_ ?_) <;> (intro hcnd; simp (decide := true) only [go_sem, reduceIte, reduceCtorEq, jA, jB, jC, jD, jE, jF, hcnd, c1, c2, c3, d4, d5, d6, d7, Ent.row]))))
  simp at c1 c2 c3
  have : decide (e.refs = f.refs) = decide (e = f) := by
    rw [Bool.eq_iff_iff]
    cases e; cases f
    simp at c1 c2 c3 c4 c5 c6 c7
    simp [c1, c2, c3, c4, c5, c6, c7]
  rw [this]
end Go.Proofs.YtiaamlaibfpdgaaDoor

/- Entries: forms. -/
namespace Go.Proofs.YtiaamlaibfpdgaaDoor
open Go.Dl
open Go.Dl renaming dw_seq → kA, dw_block → kB, dw_reg → kC, dw_skip → kD, dw_exit → kE, dw_ret → kF, dw_cond → kG, guardC_f → kH, guardC_t → kI, dw_drw → kJ, dw_weaken → kK, sub_kn → kL, sub_ml → kM
open Go.Dl.CallC renaming mk → kN, light → kO
open Go.Dl.LeL renaming of_eq → kP
attribute [local irreducible] DW DCalls ECalls wk IW

def hasA (xs : List (List Int)) (a : List Int) : Bool := xs.any fun b => decide (b = a)
def altsE (g : List Phon) (seen : List (List Int)) : List (List Int) → Int
  | [] => 0
  | a :: l => if wordE g a ≠ 0 then wordE g a else if hasA seen a = true then 8 else altsE g (seen ++ [a]) l
def formsE (g : List Phon) (e : Ent) : Int :=
  if wordE g e.form ≠ 0 then wordE g e.form else if e.cls < 1 ∨ 20 < e.cls then 21 else if 3 < e.alts.length then 11 else altsE g [e.form] e.alts

def IsA (f : FuncId) (a : List Int) : Prop := ∀ b : List Int, b.length ≤ maxLen → DCalls Tryd.prog f [dv (.sl 1 (ints b)), dv (.pt [.sl 1 (ints a)])] (dv (lb (decide (b = a))))

set_option maxRecDepth 10000 in
theorem forms1_D (a : List Int) : IsA 71 a := by
  intro b hb
  refine dcalls (N := 7) (rs := [.tmp 3]) (by kernel_rfl) Tryd.func71 rfl rfl rfl (by simp) ?_
  (repeat' (first | refine kA ?_ | refine kB ?_ | ((first | (refine kC (N := 7) rfl (by kernel_rfl) ?_) | refine kD ?_ | refine kE ?_ | (refine kN (eqI_D b a hb) (kP rfl) ?_) | (refine kO (eqI_D b a hb) (kP rfl) ?_) | refine kF ?_); simp (decide := true) only [go_sem, reduceIte, reduceCtorEq, jA, jB, jC, jD, jE, jF]) | (apply kG; (simp (decide := true) only [go_sem, reduceIte, reduceCtorEq, jA, jB, jC, jD, jE, jF]; rfl); all_goals (intro hcnd; first | (exact absurd hcnd (by decide)) | skip))))

set_option maxRecDepth 10000 in
theorem has1_D (a : List Int) : IsA 49 a := by
  intro b hb
  refine dcalls (N := 7) (rs := [.tmp 3]) (by kernel_rfl) Tryd.func49 rfl rfl rfl (by simp) ?_
  (repeat' (first | refine kA ?_ | refine kB ?_ | ((first | (refine kC (N := 7) rfl (by kernel_rfl) ?_) | refine kD ?_ | refine kE ?_ | (refine kN (eqI_D b a hb) (kP rfl) ?_) | (refine kO (eqI_D b a hb) (kP rfl) ?_) | refine kF ?_); simp (decide := true) only [go_sem, reduceIte, reduceCtorEq, jA, jB, jC, jD, jE, jF]) | (apply kG; (simp (decide := true) only [go_sem, reduceIte, reduceCtorEq, jA, jB, jC, jD, jE, jF]; rfl); all_goals (intro hcnd; first | (exact absurd hcnd (by decide)) | skip))))

set_option maxRecDepth 10000 in
set_option maxHeartbeats 2000000 in
theorem idxA_D (f : FuncId) (a : List Int) (hf : IsA f a) (xs : List (List Int)) (hl : xs.length ≤ maxLen) (hx : ∀ b ∈ xs, b.length ≤ maxLen) : DCalls Tryd.prog 78 [dv (.sl 1 (xs.map altC)), dv (.fn f [.pt [.sl 1 (ints a)]])] (dv (li (idxF (fun b => decide (b = a)) xs))) := by
  have hmax : maxLen = 9223372036854775807 := rfl
  refine dcalls (N := 19) (rs := [.tmp 4]) (by kernel_rfl) Tryd.func78 rfl rfl rfl (by simp) ?_
  (repeat (first | refine kA ?_ | refine kB ?_ | ((first | (refine kC (N := 19) rfl (by kernel_rfl) ?_) | refine kD ?_ | refine kE ?_); simp (decide := true) only [go_sem, reduceIte, reduceCtorEq, jA, jB, jC, jD, jE, jF])))
  refine dw_rngI xs (fun k => kn 19 [(0, dv (.sl 1 (xs.map altC))), (1, dv (.fn f [.pt [.sl 1 (ints a)]])), (7, dv (li xs.length)), (8, dv (li k))] noMem) (fun k => ∀ b ∈ xs.take k, decide (b = a) = false) (by omega) (kL rfl (by simp (decide := true) only [go_sem, reduceIte, reduceCtorEq, jA, jB, jC, jD, jE, jF]) (by simp [noMem])) (by simp) ?_ ?_
  · intro k b hb hk hm htk hlt hw hi
    have hc := hf b (hx b hm)
    (repeat' (first | refine kA ?_ | refine kB ?_ | ((first | (refine kC (N := 19) rfl (by kernel_rfl) ?_) | refine kD ?_ | refine kE ?_ | (refine kN (hc) (kP rfl) ?_) | (refine kO (hc) (kP rfl) ?_) | refine kF ?_); simp (decide := true) only [go_sem, reduceIte, reduceCtorEq, jA, jB, jC, jD, jE, jF, hlt, hw, hb, altC]) | (apply kG; (simp (decide := true) only [go_sem, reduceIte, reduceCtorEq, jA, jB, jC, jD, jE, jF, hlt, hw, hb, altC]; rfl); all_goals (intro hcnd; first | (exact absurd hcnd (by decide)) | skip))))
    · rw [idxF_at hb hi hcnd]
    · exact ⟨forall_snoc htk hi hcnd, kL rfl (by simp (decide := true) only [go_sem, reduceIte, reduceCtorEq, jA, jB, jC, jD, jE, jF]) (by simp [noMem])⟩
  · intro hlt hi
    rw [List.take_length] at hi
    (repeat' (first | refine kA ?_ | refine kB ?_ | ((first | (refine kC (N := 19) rfl (by kernel_rfl) ?_) | refine kD ?_ | refine kE ?_ | refine kF ?_); simp (decide := true) only [go_sem, reduceIte, reduceCtorEq, jA, jB, jC, jD, jE, jF, hlt]) | (apply kG; (simp (decide := true) only [go_sem, reduceIte, reduceCtorEq, jA, jB, jC, jD, jE, jF, hlt]; rfl); all_goals (intro hcnd; first | (exact absurd hcnd (by decide)) | skip))))
    rw [idxF_no hi]

set_option maxRecDepth 10000 in
theorem conA_D (f : FuncId) (a : List Int) (hf : IsA f a) (xs : List (List Int)) (hl : xs.length ≤ maxLen) (hx : ∀ b ∈ xs, b.length ≤ maxLen) : DCalls Tryd.prog 48 [dv (.sl 1 (xs.map altC)), dv (.fn f [.pt [.sl 1 (ints a)]])] (dv (lb (hasA xs a))) := by
  refine dcalls (N := 9) (rs := [.tmp 4]) (by kernel_rfl) Tryd.func48 rfl rfl rfl (by simp) ?_
  have h := idxF_any (fun b => decide (b = a)) xs
  (repeat' (first | refine kA ?_ | refine kB ?_ | ((first | (refine kC (N := 9) rfl (by kernel_rfl) ?_) | refine kD ?_ | refine kE ?_ | (refine kN (idxA_D f a hf xs hl hx) (kP rfl) ?_) | (refine kO (idxA_D f a hf xs hl hx) (kP rfl) ?_) | refine kF ?_); simp (decide := true) only [go_sem, reduceIte, reduceCtorEq, jA, jB, jC, jD, jE, jF, h]) | (apply kG; (simp (decide := true) only [go_sem, reduceIte, reduceCtorEq, jA, jB, jC, jD, jE, jF, h]; rfl); all_goals (intro hcnd; first | (exact absurd hcnd (by decide)) | skip))))
  rfl

set_option maxRecDepth 10000 in

set_option maxHeartbeats 8000000 in
theorem forms_D (g : List Phon) (e : Ent) : DCalls Tryd.prog 40 [.agg (invRow g), .agg e.row] (dv (li (formsE g e))) := by
  have hmax : maxLen = 9223372036854775807 := rfl
  refine dcalls_grant (p := OkE e) (by kernel_rfl) (fun w K h => ?_) fun he => ?_
  · obtain ⟨v, hv⟩ := h (.agg e.row) (by simp)
    exact okE_of hv
  have hW := word_D g e.form
  simp only [invRow] at hW
  refine dcalls (N := 53) (rs := [.tmp 4]) (by kernel_rfl) Tryd.func40 rfl rfl rfl (by simp) ?_
  rcases Bool.eq_false_or_eq_true (wordE g e.form != 0) with t1 | t1
  · have n1 : wordE g e.form ≠ 0 := by simpa using t1
    (repeat' (first | refine kA ?_ | refine kB ?_ | ((first | (refine kC (N := 53) rfl (by kernel_rfl) ?_) | refine kD ?_ | refine kE ?_ | (refine kN (hW) (kP rfl) ?_) | (refine kO (hW) (kP rfl) ?_) | refine kF ?_); simp (decide := true) only [go_sem, reduceIte, reduceCtorEq, jA, jB, jC, jD, jE, jF, t1, Ent.row, invRow]) | (apply kG; (simp (decide := true) only [go_sem, reduceIte, reduceCtorEq, jA, jB, jC, jD, jE, jF, t1, Ent.row, invRow]; rfl); all_goals (intro hcnd; first | (exact absurd hcnd (by decide)) | skip)) | ((first | refine kH ?_ ?_ | refine kI ?_ ?_) <;> (intro hcnd; simp (decide := true) only [go_sem, reduceIte, reduceCtorEq, jA, jB, jC, jD, jE, jF, hcnd, t1, Ent.row, invRow]))))
    rw [formsE, if_pos n1]
  have n1 : ¬ wordE g e.form ≠ 0 := by simpa using t1
  rcases Bool.eq_false_or_eq_true (decide (e.cls < 1)) with t2 | t2
  · have n2 := of_decide_eq_true t2
    (repeat' (first | refine kA ?_ | refine kB ?_ | ((first | (refine kC (N := 53) rfl (by kernel_rfl) ?_) | refine kD ?_ | refine kE ?_ | (refine kN (hW) (kP rfl) ?_) | (refine kO (hW) (kP rfl) ?_) | refine kF ?_); simp (decide := true) only [go_sem, reduceIte, reduceCtorEq, jA, jB, jC, jD, jE, jF, t1, t2, Ent.row, invRow]) | (apply kG; (simp (decide := true) only [go_sem, reduceIte, reduceCtorEq, jA, jB, jC, jD, jE, jF, t1, t2, Ent.row, invRow]; rfl); all_goals (intro hcnd; first | (exact absurd hcnd (by decide)) | skip)) | ((first | refine kH ?_ ?_ | refine kI ?_ ?_) <;> (intro hcnd; simp (decide := true) only [go_sem, reduceIte, reduceCtorEq, jA, jB, jC, jD, jE, jF, hcnd, t1, t2, Ent.row, invRow]))))
    rw [formsE, if_neg n1, if_pos (.inl n2)]
  have n2 := of_decide_eq_false t2
  rcases Bool.eq_false_or_eq_true (decide ((20 : Int) < e.cls)) with t3 | t3
  · have n3 := of_decide_eq_true t3
    (repeat' (first | refine kA ?_ | refine kB ?_ | ((first | (refine kC (N := 53) rfl (by kernel_rfl) ?_) | refine kD ?_ | refine kE ?_ | (refine kN (hW) (kP rfl) ?_) | (refine kO (hW) (kP rfl) ?_) | refine kF ?_); simp (decide := true) only [go_sem, reduceIte, reduceCtorEq, jA, jB, jC, jD, jE, jF, t1, t2, t3, Ent.row, invRow]) | (apply kG; (simp (decide := true) only [go_sem, reduceIte, reduceCtorEq, jA, jB, jC, jD, jE, jF, t1, t2, t3, Ent.row, invRow]; rfl); all_goals (intro hcnd; first | (exact absurd hcnd (by decide)) | skip)) | ((first | refine kH ?_ ?_ | refine kI ?_ ?_) <;> (intro hcnd; simp (decide := true) only [go_sem, reduceIte, reduceCtorEq, jA, jB, jC, jD, jE, jF, hcnd, t1, t2, t3, Ent.row, invRow]))))
    rw [formsE, if_neg n1, if_pos (.inr n3)]
  have n3 := of_decide_eq_false t3
  rcases Bool.eq_false_or_eq_true (decide ((3 : Int) < (e.alts.length : Int))) with t4 | t4
  · have n4 : 3 < e.alts.length := by have := of_decide_eq_true t4; omega
    (repeat' (first | refine kA ?_ | refine kB ?_ | ((first | (refine kC (N := 53) rfl (by kernel_rfl) ?_) | refine kD ?_ | refine kE ?_ | (refine kN (hW) (kP rfl) ?_) | (refine kO (hW) (kP rfl) ?_) | refine kF ?_); simp (decide := true) only [go_sem, reduceIte, reduceCtorEq, jA, jB, jC, jD, jE, jF, t1, t2, t3, t4, Ent.row, invRow]) | (apply kG; (simp (decide := true) only [go_sem, reduceIte, reduceCtorEq, jA, jB, jC, jD, jE, jF, t1, t2, t3, t4, Ent.row, invRow]; rfl); all_goals (intro hcnd; first | (exact absurd hcnd (by decide)) | skip)) | ((first | refine kH ?_ ?_ | refine kI ?_ ?_) <;> (intro hcnd; simp (decide := true) only [go_sem, reduceIte, reduceCtorEq, jA, jB, jC, jD, jE, jF, hcnd, t1, t2, t3, t4, Ent.row, invRow]))))
    rw [formsE, if_neg n1, if_neg (by omega), if_pos n4]
  have n4 : ¬ 3 < e.alts.length := by have := of_decide_eq_false t4; omega
  (repeat' (first | refine kA ?_ | refine kB ?_ | ((first | (refine kC (N := 53) rfl (by kernel_rfl) ?_) | refine kD ?_ | refine kE ?_ | (refine kN (hW) (kP rfl) ?_) | (refine kO (hW) (kP rfl) ?_)); simp (decide := true) only [go_sem, reduceIte, reduceCtorEq, jA, jB, jC, jD, jE, jF, t1, t2, t3, t4, Ent.row, invRow]) | (apply kG; (simp (decide := true) only [go_sem, reduceIte, reduceCtorEq, jA, jB, jC, jD, jE, jF, t1, t2, t3, t4, Ent.row, invRow]; rfl); all_goals (intro hcnd; first | (exact absurd hcnd (by decide)) | skip)) | ((first | refine kH ?_ ?_ | refine kI ?_ ?_) <;> (intro hcnd; simp (decide := true) only [go_sem, reduceIte, reduceCtorEq, jA, jB, jC, jD, jE, jF, hcnd, t1, t2, t3, t4, Ent.row, invRow]))))
  refine dw_ownX 6 6 1 (by simp (decide := true) only [go_sem, reduceIte, reduceCtorEq, jA, jB, jC, jD, jE, jF]; rfl) ?_
  refine dw_rngI e.alts (fun k => kn 53 [(2, .one (.bx 2 1 0 0)), (3, .one (.bx 3 8 0 0)), (6, .one (.own 6 1 ((e.form :: e.alts.take k).map altC))), (33, dv (.sl 1 (e.alts.map altC))), (34, dv (li e.alts.length)), (35, dv (li k))] (ml [(2, [invRow g]), (3, [e.row])])) (fun k => altsE g (e.form :: e.alts.take k) (e.alts.drop k) = formsE g e) (by omega) (kM rfl (by simp (decide := true) only [go_sem, reduceIte, reduceCtorEq, jA, jB, jC, jD, jE, jF]) (by simp (decide := true) only [go_sem, reduceIte, reduceCtorEq, jA, jB, jC, jD, jE, jF, Ent.row, invRow])) (by rw [formsE, if_neg n1, if_neg (by omega), if_neg n4]; simp) ?_ ?_
  · intro k a ha hk hm htk hlt hw hi
    rw [drop_at ha, altsE] at hi
    have hWa := word_D g a
    simp only [invRow] at hWa
    rcases Bool.eq_false_or_eq_true (wordE g a != 0) with t5 | t5
    · have n5 : wordE g a ≠ 0 := by simpa using t5
      rw [if_pos n5] at hi
      (repeat' (first | refine kA ?_ | refine kB ?_ | ((first | (refine kC (N := 53) rfl (by kernel_rfl) ?_) | refine kD ?_ | refine kE ?_ | (refine kN (hWa) (kP rfl) ?_) | (refine kO (hWa) (kP rfl) ?_) | refine kF ?_); simp (decide := true) only [go_sem, reduceIte, reduceCtorEq, jA, jB, jC, jD, jE, jF, hlt, hw, ha, t5, Ent.row, invRow, altC]) | (apply kG; (simp (decide := true) only [go_sem, reduceIte, reduceCtorEq, jA, jB, jC, jD, jE, jF, hlt, hw, ha, t5, Ent.row, invRow, altC]; rfl); all_goals (intro hcnd; first | (exact absurd hcnd (by decide)) | skip)) | ((first | refine kH ?_ ?_ | refine kI ?_ ?_) <;> (intro hcnd; simp (decide := true) only [go_sem, reduceIte, reduceCtorEq, jA, jB, jC, jD, jE, jF, hcnd, hlt, hw, ha, t5, Ent.row, invRow, altC]))))
      rw [hi]
    have n5 : ¬ wordE g a ≠ 0 := by simpa using t5
    rw [if_neg n5] at hi
    (repeat' (first | refine kA ?_ | refine kB ?_ | ((first | (refine kC (N := 53) rfl (by kernel_rfl) ?_) | refine kD ?_ | refine kE ?_ | (refine kN (hWa) (kP rfl) ?_) | (refine kO (hWa) (kP rfl) ?_)); simp (decide := true) only [go_sem, reduceIte, reduceCtorEq, jA, jB, jC, jD, jE, jF, hlt, hw, ha, t5, Ent.row, invRow, altC]) | (apply kG; (simp (decide := true) only [go_sem, reduceIte, reduceCtorEq, jA, jB, jC, jD, jE, jF, hlt, hw, ha, t5, Ent.row, invRow, altC]; rfl); all_goals (intro hcnd; first | (exact absurd hcnd (by decide)) | skip)) | ((first | refine kH ?_ ?_ | refine kI ?_ ?_) <;> (intro hcnd; simp (decide := true) only [go_sem, reduceIte, reduceCtorEq, jA, jB, jC, jD, jE, jF, hcnd, hlt, hw, ha, t5, Ent.row, invRow, altC]))))
    refine CallC.frz 8 [.sl 1 (ints a)] (by simp) (by simp (decide := true) only [go_sem, reduceIte, reduceCtorEq, jA, jB, jC, jD, jE, jF]) ?_
    simp (decide := true) only [go_sem, reduceIte, reduceCtorEq, jA, jB, jC, jD, jE, jF]
    have hal : a.length ≤ maxLen := he.alt a hm
    have hsl : (e.form :: e.alts.take k).length ≤ maxLen := by rw [List.length_cons, List.length_take]; omega
    have hsa : ∀ b ∈ e.form :: e.alts.take k, b.length ≤ maxLen := fun b hb => by
      rcases List.mem_cons.1 hb with h | h
      · rw [h]; exact he.form
      · exact he.alt b (List.mem_of_mem_take h)
    refine kN (conA_D _ a (forms1_D a) (e.form :: e.alts.take k) hsl hsa) (kP rfl) ?_
    simp (decide := true) only [go_sem, reduceIte, reduceCtorEq, jA, jB, jC, jD, jE, jF]
    have hroom : (((e.alts.take k).length + 1 + 1) * 24 ≤ 140737488355328) = True := eq_true (by rw [List.length_take]; omega)
    cases t6 : hasA (e.form :: e.alts.take k) a
    · rw [t6, if_neg (by decide)] at hi
      (repeat' (first | refine kA ?_ | refine kB ?_ | ((first | (refine kC (N := 53) rfl (by kernel_rfl) ?_) | refine kD ?_ | refine kE ?_ | refine kF ?_); simp (decide := true) only [go_sem, reduceIte, reduceCtorEq, jA, jB, jC, jD, jE, jF, hlt, hw, ha, t5, t6, hroom, Ent.row, invRow, altC]) | (apply kG; (simp (decide := true) only [go_sem, reduceIte, reduceCtorEq, jA, jB, jC, jD, jE, jF, hlt, hw, ha, t5, t6, hroom, Ent.row, invRow, altC]; rfl); all_goals (intro hcnd; first | (exact absurd hcnd (by decide)) | skip)) | ((first | refine kH ?_ ?_ | refine kI ?_ ?_) <;> (intro hcnd; simp (decide := true) only [go_sem, reduceIte, reduceCtorEq, jA, jB, jC, jD, jE, jF, hcnd, hlt, hw, ha, t5, t6, hroom, Ent.row, invRow, altC]))))
      refine ⟨by rw [htk, ← List.cons_append]; exact hi, kM rfl (by simp (decide := true) only [go_sem, reduceIte, reduceCtorEq, jA, jB, jC, jD, jE, jF, htk, List.map_append]) (by simp (decide := true) only [go_sem, reduceIte, reduceCtorEq, jA, jB, jC, jD, jE, jF, Ent.row, invRow])⟩
    · rw [t6, if_pos rfl] at hi
      (repeat' (first | refine kA ?_ | refine kB ?_ | ((first | (refine kC (N := 53) rfl (by kernel_rfl) ?_) | refine kD ?_ | refine kE ?_ | refine kF ?_); simp (decide := true) only [go_sem, reduceIte, reduceCtorEq, jA, jB, jC, jD, jE, jF, hlt, hw, ha, t5, t6, Ent.row, invRow, altC]) | (apply kG; (simp (decide := true) only [go_sem, reduceIte, reduceCtorEq, jA, jB, jC, jD, jE, jF, hlt, hw, ha, t5, t6, Ent.row, invRow, altC]; rfl); all_goals (intro hcnd; first | (exact absurd hcnd (by decide)) | skip)) | ((first | refine kH ?_ ?_ | refine kI ?_ ?_) <;> (intro hcnd; simp (decide := true) only [go_sem, reduceIte, reduceCtorEq, jA, jB, jC, jD, jE, jF, hcnd, hlt, hw, ha, t5, t6, Ent.row, invRow, altC]))))
      rw [hi]
  · intro hlt hi
    (repeat' (first | refine kA ?_ | refine kB ?_ | ((first | (refine kC (N := 53) rfl (by kernel_rfl) ?_) | refine kD ?_ | refine kE ?_ | refine kF ?_); simp (decide := true) only [go_sem, reduceIte, reduceCtorEq, jA, jB, jC, jD, jE, jF, hlt]) | (apply kG; (simp (decide := true) only [go_sem, reduceIte, reduceCtorEq, jA, jB, jC, jD, jE, jF, hlt]; rfl); all_goals (intro hcnd; first | (exact absurd hcnd (by decide)) | skip)) | ((first | refine kH ?_ ?_ | refine kI ?_ ?_) <;> (intro hcnd; simp (decide := true) only [go_sem, reduceIte, reduceCtorEq, jA, jB, jC, jD, jE, jF, hcnd, hlt]))))
    rw [← hi]; simp [altsE]
end Go.Proofs.YtiaamlaibfpdgaaDoor
