/- The statements about lexical entries: their frames. For every input (of the size that the statement names) the law returns true. -/
import Derived.Test.YtiaamlaibfpdgaaDoorCards
import Derived.Test.YtiaamlaibfpdgaaDoorTie
import Derived.WalkKit
import Derived.ProofKit
import Derived.OpenShut
import Derived.ShutString
import Derived.ChangeOld
import Derived.Below
import Derived.Deep.DeepHandedRow
import Derived.Lib.LaidIn
import Derived.Lib.LaidU8T
import Derived.Test.YtiaamlaibfpdgaaDoorm5
set_option linter.all false
set_option linter.unusedVariables false
set_option linter.unusedSimpArgs false
open Nat renaming reduceEqDiff → jA, reduceAdd → jB, reduceMul → jC, reduceSub → jD, reduceLeDiff → jE, reduceBEq → jF
namespace Go.Proofs.YtiaamlaibfpdgaaDoor
open Go.ChangeShapes Go.WideShapes Go.ChangeAt Go.RowKit
open Go.ChangeMaps (open_string shut_string)
open Go.Dl (Sh Val)

theorem Tryd.own : ownKnob Tryd.prog.godebug = none := by kernel_rfl
theorem Tryd.laidOut : laidOutB Tryd.prog = true := by kernel_rfl

noncomputable def laidWorld (os : Os) : World :=
  let w0 := World.holding Tryd.prog os ⟨#[], #[], []⟩
  let put (h : Array Obj) (g : Nat) (cs : Array Value) : Array Obj := h.modify g fun
    | .cells _ t frozen => .cells cs t frozen
    | o => o
  let h1 := put w0.heap 0 (Go.Lib.firstTab.map fun z => Value.int .u8 z).toArray
  let h2 := put h1 1 ((List.range 16).flatMap fun i => [Value.int .u8 (Go.Lib.accLo i), Value.int .u8 (Go.Lib.accHi i)]).toArray
  { w0 with heap := h2 }
def laidL : List (String × DataW Unit) := [("unicode/utf8.acceptRanges", Rows.laid_unicode_utf8_acceptRanges), ("unicode/utf8.first", Rows.laid_unicode_utf8_first)]
theorem laid1 : Rows.laid_unicode_utf8_first = Go.Lib.firstData := by kernel_rfl
theorem laid2 : (Rows.laid_unicode_utf8_acceptRanges : DataW Unit) = Go.Lib.acceptData := by kernel_rfl
theorem acc_all : ∀ i : Fin 16, ∀ j : Fin 2, ((List.range 16).flatMap fun i => [Value.int .u8 (Go.Lib.accLo i), Value.int .u8 (Go.Lib.accHi i)])[2 * i.val + j.val]? = some (if j.val = 0 then Value.int .u8 (Go.Lib.accLo i.val) else Value.int .u8 (Go.Lib.accHi i.val)) := by
  intro i j
  match i, j with
  | ⟨i, hi⟩, ⟨j, hj⟩ =>
    have : i = 0 ∨ i = 1 ∨ i = 2 ∨ i = 3 ∨ i = 4 ∨ i = 5 ∨ i = 6 ∨ i = 7 ∨ i = 8 ∨ i = 9 ∨ i = 10 ∨ i = 11 ∨ i = 12 ∨ i = 13 ∨ i = 14 ∨ i = 15 := by omega
    have h2 : j = 0 ∨ j = 1 := by omega
    rcases this with rfl | rfl | rfl | rfl | rfl | rfl | rfl | rfl | rfl | rfl | rfl | rfl | rfl | rfl | rfl | rfl <;> rcases h2 with rfl | rfl <;> rfl
theorem tabs_at {W : World} (h : laidMetH Tryd.prog laidL W) : Go.Dl.TabsAt W := by
  have hm : laidMet Tryd.prog laidL W := h
  have ht : Go.Lib.Utf8Tabs (Tryd.laysV_ren.g 3) (Tryd.laysV_ren.g 4) W :=
    utf8Tabs_of_readsT (U8Types.of196 Tryd.laysV) ⟨by kernel_rfl, by kernel_rfl, by kernel_rfl, by kernel_rfl, by kernel_rfl, by kernel_rfl, by kernel_rfl⟩ (laid1 ▸ Go.Lib.laidMet.reads hm (.tail _ (.head _))) (laid2 ▸ Go.Lib.laidMet.reads hm (.head _))
  intro g vs hg o v hv
  unfold Go.Dl.gtab at hg
  split at hg
  · rename_i e
    subst e
    injection hg with hg
    subst hg
    have ho : o < 256 := by
      have := (List.getElem?_eq_some_iff.1 hv).1
      simpa [Go.Lib.firstTab] using this
    simp [Go.Lib.firstTab, ho] at hv
    subst hv
    exact ⟨rfl, ht.1 o ho⟩
  · split at hg
    · rename_i e
      subst e
      injection hg with hg
      subst hg
      have ho : o < 32 := by
        have := (List.getElem?_eq_some_iff.1 hv).1
        exact this
      obtain ⟨i, j, hi, hj, rfl⟩ : ∃ i j, i < 16 ∧ j < 2 ∧ o = 2 * i + j := ⟨o / 2, o % 2, by omega, by omega, by omega⟩
      have h2 := acc_all ⟨i, hi⟩ ⟨j, hj⟩
      simp only at h2
      rw [hv] at h2
      injection h2 with h2
      have h3 := ht.2 i hi
      have hj' : j = 0 ∨ j = 1 := by omega
      rcases hj' with rfl | rfl
      · subst h2; exact ⟨rfl, h3.1⟩
      · subst h2; exact ⟨rfl, h3.2⟩
    · cases hg

theorem bulk_all {H : Type} : ∀ l : List (DataW H), Rows.uptoBulkAll l = (l.map Rows.uptoBulk).sum
  | [] => by simp [Rows.uptoBulkAll]
  | d :: l => by simp [Rows.uptoBulkAll, bulk_all l]
theorem isBulk (H : Type) : Go.Dl.IsBulk (Rows.uptoBulk (H := H)) where
  pos d := by
    cases d with
    | lit l => cases l <;> simp [Rows.uptoBulk]
    | nil => simp [Rows.uptoBulk]
    | ptr d => simp [Rows.uptoBulk]
    | slice elems spare => simp [Rows.uptoBulk]
    | agg parts => simp [Rows.uptoBulk]
    | iface t d => simp [Rows.uptoBulk]
    | map entries => simp [Rows.uptoBulk]
    | held h => simp [Rows.uptoBulk]
  str bs := by simp [Rows.uptoBulk]
  sl es ss := by simp only [Rows.uptoBulk, bulk_all]; omega
  agg ps := by simp only [Rows.uptoBulk, bulk_all]; omega

abbrev shInt : Sh := .int .i64
abbrev shSns : Sh := .cons .str (.cons .str .nil)
abbrev shPhon : Sh := .cons .str (.cons shInt .nil)
abbrev shInv : Sh := .cons (.sl 2 shPhon) .nil
abbrev shLnk : Sh := .cons shInt (.cons shInt .nil)
abbrev shAlt : Sh := .sl 1 shInt
abbrev shEnt : Sh := .cons shInt (.cons (.sl 1 shInt) (.cons shInt (.cons (.sl 1 shAlt) (.cons shInt (.cons (.sl 2 shSns) (.cons (.sl 2 shLnk) (.cons (.sl 2 shLnk) .nil)))))))
abbrev shChange : Sh := .cons shSns (.cons shLnk .nil)

def Sns.ofVal (v : Val shSns) : Sns := ⟨v.1, v.2.1⟩
def Phon.ofVal (v : Val shPhon) : Phon := ⟨v.1, v.2.1⟩
def Lnk.ofVal (v : Val shLnk) : Lnk := ⟨v.1, v.2.1⟩
def altOf (v : Val (.sl 1 shInt)) : List Int := v
def invOf (v : Val shInv) : List Phon := List.map Phon.ofVal v.1
def Ent.ofVal (v : Val shEnt) : Ent := ⟨v.1, v.2.1, v.2.2.1, List.map altOf v.2.2.2.1, v.2.2.2.2.1, List.map Sns.ofVal v.2.2.2.2.2.1, List.map Lnk.ofVal v.2.2.2.2.2.2.1, List.map Lnk.ofVal v.2.2.2.2.2.2.2.1⟩
theorem sns_enc (l : List (Val shSns)) : List.map (Sh.enc shSns) l = (List.map Sns.ofVal l).map Sns.enc := by
  rw [List.map_map]; rfl
theorem phon_enc (l : List (Val shPhon)) : List.map (Sh.enc shPhon) l = (List.map Phon.ofVal l).map Phon.enc := by
  rw [List.map_map]; rfl
theorem lnk_enc (l : List (Val shLnk)) : List.map (Sh.enc shLnk) l = (List.map Lnk.ofVal l).map Lnk.enc := by
  rw [List.map_map]; rfl
theorem alt_enc (l : List (Val (.sl 1 shInt))) : List.map (Sh.enc (.sl 1 shInt)) l = (List.map altOf l).map altC := by
  rw [List.map_map]; rfl
theorem strVD {w : World} {E : Go.Dl.Env} {v : Value} (x : Val .str) (h : Go.Dl.VD w E (Go.Dl.ArgD .str x) v) : Go.Dl.VD w E (dv (ls x)) v := h
theorem intVD {w : World} {E : Go.Dl.Env} {v : Value} (x : Val shInt) (h : Go.Dl.VD w E (Go.Dl.ArgD shInt x) v) : Go.Dl.VD w E (dv (li x)) v := h
theorem intsVD {w : World} {E : Go.Dl.Env} {v : Value} (x : Val (.sl 1 shInt)) (h : Go.Dl.VD w E (Go.Dl.ArgD (.sl 1 shInt) x) v) : Go.Dl.VD w E (dv (.sl 1 (ints (altOf x)))) v := h
theorem invVD {w : World} {E : Go.Dl.Env} {v : Value} (x : Val shInv) (h : Go.Dl.VD w E (Go.Dl.ArgD shInv x) v) : Go.Dl.VD w E (.agg (invRow (invOf x))) v := by
  have e : Go.Dl.ArgD shInv x = .agg (invRow (invOf x)) := by
    show Go.Dl.D.agg [.c (.sl 2 (List.map (Sh.enc shPhon) x.1))] = _
    rw [phon_enc x.1]; rfl
  rw [← e]; exact h
theorem entVD {w : World} {E : Go.Dl.Env} {v : Value} (x : Val shEnt) (h : Go.Dl.VD w E (Go.Dl.ArgD shEnt x) v) : Go.Dl.VD w E (.agg (Ent.ofVal x).row) v := by
  have e1 := alt_enc x.2.2.2.1
  have e2 := sns_enc x.2.2.2.2.2.1
  have e3 := lnk_enc x.2.2.2.2.2.2.1
  have e4 := lnk_enc x.2.2.2.2.2.2.2.1
  have e : Go.Dl.ArgD shEnt x = .agg (Ent.ofVal x).row := by
    show Go.Dl.D.agg [.c (li x.1), .c (.sl 1 (List.map (Sh.enc shInt) x.2.1)), .c (li x.2.2.1), .c (.sl 1 (List.map (Sh.enc (.sl 1 shInt)) x.2.2.2.1)), .c (li x.2.2.2.2.1), .c (.sl 2 (List.map (Sh.enc shSns) x.2.2.2.2.2.1)), .c (.sl 2 (List.map (Sh.enc shLnk) x.2.2.2.2.2.2.1)), .c (.sl 2 (List.map (Sh.enc shLnk) x.2.2.2.2.2.2.2.1))] = _
    rw [e1, e2, e3, e4]; rfl
  rw [← e]; exact h
theorem snsVD {w : World} {E : Go.Dl.Env} {v : Value} (x : Val shSns) (h : Go.Dl.VD w E (Go.Dl.ArgD shSns x) v) : Go.Dl.VD w E (.agg (Sns.ofVal x).row) v := h
theorem lnkVD {w : World} {E : Go.Dl.Env} {v : Value} (x : Val shLnk) (h : Go.Dl.VD w E (Go.Dl.ArgD shLnk x) v) : Go.Dl.VD w E (.agg (Lnk.ofVal x).row) v := h
theorem changeVD {w : World} {E : Go.Dl.Env} {v : Value} (x : Val shChange) (h : Go.Dl.VD w E (Go.Dl.ArgD shChange x) v) : Go.Dl.VD w E (.agg ((Sns.ofVal x.1).row ++ (Lnk.ofVal x.2.1).row)) v := h

theorem sum_ge {α : Type} (f : α → Nat) : ∀ {l : List α} {a : α}, a ∈ l → f a ≤ (l.map f).sum
  | b :: l, a, h => by
    rcases List.mem_cons.1 h with rfl | h
    · simp
    · have := sum_ge f h; simp; omega
theorem sum_len {α : Type} (f : α → Nat) (hf : ∀ a, 1 ≤ f a) : ∀ l : List α, l.length ≤ (l.map f).sum
  | [] => by simp
  | b :: l => by have := sum_len f hf l; have := hf b; simp; omega
theorem inv_sz {x : Val shInv} {n : Nat} (h : Go.Dl.sizeV shInv x ≤ n) : ∀ p ∈ invOf x, p.name.size ≤ n := by
  intro p hp
  obtain ⟨y, hy, rfl⟩ := List.mem_map.1 hp
  have h1 := sum_ge (Go.Dl.sizeV shPhon) hy
  have e1 : Go.Dl.sizeV shInv x = 1 + (List.map (Go.Dl.sizeV shPhon) x.1).sum + 0 := rfl
  have e2 : Go.Dl.sizeV shPhon y = (Phon.ofVal y).name.size + 1 + (1 + 0) := rfl
  omega
theorem sizeAlt (a : Val shAlt) : 1 ≤ Go.Dl.sizeV shAlt a := by
  have e : Go.Dl.sizeV shAlt a = 1 + (List.map (Go.Dl.sizeV shInt) a).sum := rfl
  omega
theorem sizeSns (a : Val shSns) : 1 ≤ Go.Dl.sizeV shSns a := by
  have e : Go.Dl.sizeV shSns a = (Sns.ofVal a).gloss.size + 1 + ((Sns.ofVal a).txt.size + 1 + 0) := rfl
  omega
theorem sizeLnk (a : Val shLnk) : 1 ≤ Go.Dl.sizeV shLnk a := by
  have e : Go.Dl.sizeV shLnk a = 1 + (1 + 0) := rfl
  omega
theorem len_map_le {α β : Type} (f : α → β) (g : α → Nat) (hg : ∀ a, 1 ≤ g a) (l : List α) {n : Nat} (h : (l.map g).sum ≤ n) : (l.map f).length ≤ n := by
  have := sum_len g hg l
  rw [List.length_map]; omega
theorem all_map_le {α β : Type} (f : α → β) (g : α → Nat) {p : β → Prop} {n : Nat} (hp : ∀ a, g a ≤ n → p (f a)) (l : List α) (h : (l.map g).sum ≤ n) : ∀ b ∈ l.map f, p b := fun b hb => by
  obtain ⟨a, ha, rfl⟩ := List.mem_map.1 hb
  exact hp a (Nat.le_trans (sum_ge g ha) h)
theorem alt_sz {n : Nat} (a : Val shAlt) (h : Go.Dl.sizeV shAlt a ≤ n) : (altOf a).length ≤ n := by
  have e : Go.Dl.sizeV shAlt a = 1 + (List.map (Go.Dl.sizeV shInt) a).sum := rfl
  have h2 := sum_len (Go.Dl.sizeV shInt) (fun _ => Nat.le_refl 1) a
  exact Nat.le_trans h2 (by omega)
theorem sns_sz {n : Nat} (s : Val shSns) (h : Go.Dl.sizeV shSns s ≤ n) : (Sns.ofVal s).gloss.size ≤ n ∧ (Sns.ofVal s).txt.size ≤ n := by
  have e : Go.Dl.sizeV shSns s = (Sns.ofVal s).gloss.size + 1 + ((Sns.ofVal s).txt.size + 1 + 0) := rfl
  omega
theorem str_sz {n : Nat} (x : Val .str) (h : Go.Dl.sizeV .str x ≤ n) : ByteArray.size x ≤ n := Nat.le_trans (Nat.le_succ _) h
theorem ent_sz {x : Val shEnt} (h : Go.Dl.sizeV shEnt x ≤ 1048576) : MidE (Ent.ofVal x) := by
  have e0 : Go.Dl.sizeV shEnt x = 1 + ((1 + (List.map (Go.Dl.sizeV shInt) x.2.1).sum) + (1 + ((1 + (List.map (Go.Dl.sizeV shAlt) x.2.2.2.1).sum) + (1 + ((1 + (List.map (Go.Dl.sizeV shSns) x.2.2.2.2.2.1).sum) + ((1 + (List.map (Go.Dl.sizeV shLnk) x.2.2.2.2.2.2.1).sum) + ((1 + (List.map (Go.Dl.sizeV shLnk) x.2.2.2.2.2.2.2.1).sum) + 0))))))) := rfl
  have q1 : (List.map (Go.Dl.sizeV shInt) x.2.1).sum ≤ 1048576 := by omega
  have q2 : (List.map (Go.Dl.sizeV shAlt) x.2.2.2.1).sum ≤ 1048576 := by omega
  have q3 : (List.map (Go.Dl.sizeV shSns) x.2.2.2.2.2.1).sum ≤ 1048576 := by omega
  have q4 : (List.map (Go.Dl.sizeV shLnk) x.2.2.2.2.2.2.1).sum ≤ 1048576 := by omega
  have q5 : (List.map (Go.Dl.sizeV shLnk) x.2.2.2.2.2.2.2.1).sum ≤ 1048576 := by omega
  exact ⟨Nat.le_trans (sum_len (Go.Dl.sizeV shInt) (fun _ => Nat.le_refl 1) x.2.1) q1, len_map_le altOf _ sizeAlt _ q2, all_map_le altOf _ alt_sz _ q2, len_map_le Sns.ofVal _ sizeSns _ q3, len_map_le Lnk.ofVal _ sizeLnk _ q4, len_map_le Lnk.ofVal _ sizeLnk _ q5, all_map_le Sns.ofVal _ sns_sz _ q3⟩

theorem read1 {w : World} {K} {d0 : Go.Dl.D} {v0 : Value} (h0 : Go.Dl.VD w K d0 v0) : ∀ (j : Nat) d v, [d0][j]? = some d → #[v0][j]? = some v → Go.Dl.VD w K d v := fun j d v h1 h2 => by
  match j with
  | 0 => simp at h1 h2; subst h1; subst h2; exact h0
  | j + 1 => simp at h1
theorem read2 {w : World} {K} {d0 d1 : Go.Dl.D} {v0 v1 : Value} (h0 : Go.Dl.VD w K d0 v0) (h1 : Go.Dl.VD w K d1 v1) : ∀ (j : Nat) d v, [d0, d1][j]? = some d → #[v0, v1][j]? = some v → Go.Dl.VD w K d v := fun j d v g1 g2 => by
  match j with
  | 0 => simp at g1 g2; subst g1; subst g2; exact h0
  | 1 => simp at g1 g2; subst g1; subst g2; exact h1
  | j + 2 => simp at g1
theorem read3 {w : World} {K} {d0 d1 d2 : Go.Dl.D} {v0 v1 v2 : Value} (h0 : Go.Dl.VD w K d0 v0) (h1 : Go.Dl.VD w K d1 v1) (h2 : Go.Dl.VD w K d2 v2) : ∀ (j : Nat) d v, [d0, d1, d2][j]? = some d → #[v0, v1, v2][j]? = some v → Go.Dl.VD w K d v := fun j d v g1 g2 => by
  match j with
  | 0 => simp at g1 g2; subst g1; subst g2; exact h0
  | 1 => simp at g1 g2; subst g1; subst g2; exact h1
  | 2 => simp at g1 g2; subst g1; subst g2; exact h2
  | j + 3 => simp at g1

end Go.Proofs.YtiaamlaibfpdgaaDoor
