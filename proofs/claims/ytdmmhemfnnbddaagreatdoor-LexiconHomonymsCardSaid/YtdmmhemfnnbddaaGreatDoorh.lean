/- The statements about lexicons: their frames. For every input (of the size that the statement names) the law returns true. -/
import Derived.Test.YtdmmhemfnnbddaaGreatDoorCards
import Derived.Test.YtdmmhemfnnbddaaGreatDoorTie
import Derived.WalkKit
import Derived.ProofKit
import Derived.OpenShut
import Derived.ShutString
import Derived.ChangeOld
import Derived.Below
import Derived.Deep.DeepHandedRow
import Derived.Lib.LaidIn
import Derived.Lib.LaidU8T
import Derived.Test.YtdmmhemfnnbddaaGreatDoorm5
set_option linter.all false
set_option linter.unusedVariables false
set_option linter.unusedSimpArgs false
namespace Go.Proofs.YtdmmhemfnnbddaaGreatDoor
open Go.ChangeShapes Go.WideShapes Go.ChangeAt Go.RowKit
open Go.ChangeMaps (open_string shut_string)
open Go.Dl (Sh Val)

theorem Tryz.own : ownKnob Tryz.prog.godebug = none := by kernel_rfl
theorem Tryz.laidOut : laidOutB Tryz.prog = true := by kernel_rfl

noncomputable def laidWorld (os : Os) : World :=
  let w0 := World.holding Tryz.prog os ⟨#[], #[], []⟩
  let put (h : Array Obj) (g : Nat) (cs : Array Value) : Array Obj := h.modify g fun
    | .cells _ t frozen => .cells cs t frozen
    | o => o
  let h1 := put w0.heap 0 (Go.Lib.firstTab.map fun z => Value.int .u8 z).toArray
  let h2 := put h1 1 ((List.range 16).flatMap fun i => [Value.int .u8 (Go.Lib.accLo i), Value.int .u8 (Go.Lib.accHi i)]).toArray
  { w0 with heap := h2 }
def laidL : List (String × DataW Unit) := [("unicode/utf8.acceptRanges", Rows.laid_unicode_utf8_acceptRanges), ("unicode/utf8.first", Rows.laid_unicode_utf8_first)]
theorem laid1 : Rows.laid_unicode_utf8_first = Go.Lib.firstData := by kernel_rfl
theorem laid2 : (Rows.laid_unicode_utf8_acceptRanges : DataW Unit) = Go.Lib.acceptData := by kernel_rfl
theorem acc_all : ∀ i : Fin 16, ∀ j : Fin 2, ((List.range 16).flatMap fun i => [Value.int .u8 (Go.Lib.accLo i), Value.int .u8 (Go.Lib.accHi i)])[2 * i.val + j.val]? = some (if j.val = 0 then Value.int .u8 (Go.Lib.accLo i.val) else Value.int .u8 (Go.Lib.accHi i.val)) := by
  intro i j
  match i, j with
  | ⟨i, hi⟩, ⟨j, hj⟩ =>
    have : i = 0 ∨ i = 1 ∨ i = 2 ∨ i = 3 ∨ i = 4 ∨ i = 5 ∨ i = 6 ∨ i = 7 ∨ i = 8 ∨ i = 9 ∨ i = 10 ∨ i = 11 ∨ i = 12 ∨ i = 13 ∨ i = 14 ∨ i = 15 := by omega
    have h2 : j = 0 ∨ j = 1 := by omega
    rcases this with rfl | rfl | rfl | rfl | rfl | rfl | rfl | rfl | rfl | rfl | rfl | rfl | rfl | rfl | rfl | rfl <;> rcases h2 with rfl | rfl <;> rfl
theorem tabs_at {W : World} (h : laidMetH Tryz.prog laidL W) : Go.Dl.TabsAt W := by
  have hm : laidMet Tryz.prog laidL W := h
  have ht : Go.Lib.Utf8Tabs (Tryz.laysV_ren.g 3) (Tryz.laysV_ren.g 4) W :=
    utf8Tabs_of_readsT (U8Types.of196 Tryz.laysV) ⟨by kernel_rfl, by kernel_rfl, by kernel_rfl, by kernel_rfl, by kernel_rfl, by kernel_rfl, by kernel_rfl⟩ (laid1 ▸ Go.Lib.laidMet.reads hm (.tail _ (.head _))) (laid2 ▸ Go.Lib.laidMet.reads hm (.head _))
  intro g vs hg o v hv
  unfold Go.Dl.gtab at hg
  split at hg
  · rename_i e
    subst e
    injection hg with hg
    subst hg
    have ho : o < 256 := by
      have := (List.getElem?_eq_some_iff.1 hv).1
      simpa [Go.Lib.firstTab] using this
    simp [Go.Lib.firstTab, ho] at hv
    subst hv
    exact ⟨rfl, ht.1 o ho⟩
  · split at hg
    · rename_i e
      subst e
      injection hg with hg
      subst hg
      have ho : o < 32 := by
        have := (List.getElem?_eq_some_iff.1 hv).1
        exact this
      obtain ⟨i, j, hi, hj, rfl⟩ : ∃ i j, i < 16 ∧ j < 2 ∧ o = 2 * i + j := ⟨o / 2, o % 2, by omega, by omega, by omega⟩
      have h2 := acc_all ⟨i, hi⟩ ⟨j, hj⟩
      simp only at h2
      rw [hv] at h2
      injection h2 with h2
      have h3 := ht.2 i hi
      have hj' : j = 0 ∨ j = 1 := by omega
      rcases hj' with rfl | rfl
      · subst h2; exact ⟨rfl, h3.1⟩
      · subst h2; exact ⟨rfl, h3.2⟩
    · cases hg

theorem bulk_all {H : Type} : ∀ l : List (DataW H), Rows.uptoBulkAll l = (l.map Rows.uptoBulk).sum
  | [] => by simp [Rows.uptoBulkAll]
  | d :: l => by simp [Rows.uptoBulkAll, bulk_all l]
theorem isBulk (H : Type) : Go.Dl.IsBulk (Rows.uptoBulk (H := H)) where
  pos d := by
    cases d with
    | lit l => cases l <;> simp [Rows.uptoBulk]
    | nil => simp [Rows.uptoBulk]
    | ptr d => simp [Rows.uptoBulk]
    | slice elems spare => simp [Rows.uptoBulk]
    | agg parts => simp [Rows.uptoBulk]
    | iface t d => simp [Rows.uptoBulk]
    | map entries => simp [Rows.uptoBulk]
    | held h => simp [Rows.uptoBulk]
  str bs := by simp [Rows.uptoBulk]
  sl es ss := by simp only [Rows.uptoBulk, bulk_all]; omega
  agg ps := by simp only [Rows.uptoBulk, bulk_all]; omega

abbrev shInt : Sh := .int .i64
abbrev shSns : Sh := .cons .str (.cons .str .nil)
abbrev shPhon : Sh := .cons .str (.cons shInt .nil)
abbrev shInv : Sh := .cons (.sl 2 shPhon) .nil
abbrev shLnk : Sh := .cons shInt (.cons shInt .nil)
abbrev shAlt : Sh := .sl 1 shInt
abbrev shEnt : Sh := .cons shInt (.cons (.sl 1 shInt) (.cons shInt (.cons (.sl 1 shAlt) (.cons shInt (.cons (.sl 2 shSns) (.cons (.sl 2 shLnk) (.cons (.sl 2 shLnk) .nil)))))))
abbrev shLex : Sh := .cons shInv (.cons (.sl 8 shEnt) .nil)
abbrev shKey : Sh := .cons (.sl 1 shInt) (.cons shInt (.cons .str .nil))

def Sns.ofVal (v : Val shSns) : Sns := ⟨v.1, v.2.1⟩
def Phon.ofVal (v : Val shPhon) : Phon := ⟨v.1, v.2.1⟩
def Lnk.ofVal (v : Val shLnk) : Lnk := ⟨v.1, v.2.1⟩
def altOf (v : Val (.sl 1 shInt)) : List Int := v
def invOf (v : Val shInv) : List Phon := List.map Phon.ofVal v.1
def Ent.ofVal (v : Val shEnt) : Ent := ⟨v.1, v.2.1, v.2.2.1, List.map altOf v.2.2.2.1, v.2.2.2.2.1, List.map Sns.ofVal v.2.2.2.2.2.1, List.map Lnk.ofVal v.2.2.2.2.2.2.1, List.map Lnk.ofVal v.2.2.2.2.2.2.2.1⟩
theorem sns_enc (l : List (Val shSns)) : List.map (Sh.enc shSns) l = (List.map Sns.ofVal l).map Sns.enc := by
  rw [List.map_map]; rfl
theorem phon_enc (l : List (Val shPhon)) : List.map (Sh.enc shPhon) l = (List.map Phon.ofVal l).map Phon.enc := by
  rw [List.map_map]; rfl
theorem lnk_enc (l : List (Val shLnk)) : List.map (Sh.enc shLnk) l = (List.map Lnk.ofVal l).map Lnk.enc := by
  rw [List.map_map]; rfl
theorem alt_enc (l : List (Val (.sl 1 shInt))) : List.map (Sh.enc (.sl 1 shInt)) l = (List.map altOf l).map altC := by
  rw [List.map_map]; rfl
theorem strVD {w : World} {E : Go.Dl.Env} {v : Value} (x : Val .str) (h : Go.Dl.VD w E (Go.Dl.ArgD .str x) v) : Go.Dl.VD w E (dv (ls x)) v := h
theorem intVD {w : World} {E : Go.Dl.Env} {v : Value} (x : Val shInt) (h : Go.Dl.VD w E (Go.Dl.ArgD shInt x) v) : Go.Dl.VD w E (dv (li x)) v := h
theorem intsVD {w : World} {E : Go.Dl.Env} {v : Value} (x : Val (.sl 1 shInt)) (h : Go.Dl.VD w E (Go.Dl.ArgD (.sl 1 shInt) x) v) : Go.Dl.VD w E (dv (.sl 1 (ints (altOf x)))) v := h
theorem invVD {w : World} {E : Go.Dl.Env} {v : Value} (x : Val shInv) (h : Go.Dl.VD w E (Go.Dl.ArgD shInv x) v) : Go.Dl.VD w E (.agg (invRow (invOf x))) v := by
  have e : Go.Dl.ArgD shInv x = .agg (invRow (invOf x)) := by
    show Go.Dl.D.agg [.c (.sl 2 (List.map (Sh.enc shPhon) x.1))] = _
    rw [phon_enc x.1]; rfl
  rw [← e]; exact h
theorem entVD {w : World} {E : Go.Dl.Env} {v : Value} (x : Val shEnt) (h : Go.Dl.VD w E (Go.Dl.ArgD shEnt x) v) : Go.Dl.VD w E (.agg (Ent.ofVal x).row) v := by
  have e1 := alt_enc x.2.2.2.1
  have e2 := sns_enc x.2.2.2.2.2.1
  have e3 := lnk_enc x.2.2.2.2.2.2.1
  have e4 := lnk_enc x.2.2.2.2.2.2.2.1
  have e : Go.Dl.ArgD shEnt x = .agg (Ent.ofVal x).row := by
    show Go.Dl.D.agg [.c (li x.1), .c (.sl 1 (List.map (Sh.enc shInt) x.2.1)), .c (li x.2.2.1), .c (.sl 1 (List.map (Sh.enc (.sl 1 shInt)) x.2.2.2.1)), .c (li x.2.2.2.2.1), .c (.sl 2 (List.map (Sh.enc shSns) x.2.2.2.2.2.1)), .c (.sl 2 (List.map (Sh.enc shLnk) x.2.2.2.2.2.2.1)), .c (.sl 2 (List.map (Sh.enc shLnk) x.2.2.2.2.2.2.2.1))] = _
    rw [e1, e2, e3, e4]; rfl
  rw [← e]; exact h
def entsOf (v : Val (.sl 8 shEnt)) : List Ent := List.map Ent.ofVal v
theorem ent_encV (y : Val shEnt) : Sh.enc shEnt y = Ent.enc (Ent.ofVal y) := by
  have e1 := alt_enc y.2.2.2.1
  have e2 := sns_enc y.2.2.2.2.2.1
  have e3 := lnk_enc y.2.2.2.2.2.2.1
  have e4 := lnk_enc y.2.2.2.2.2.2.2.1
  show [li y.1, .sl 1 (List.map (Sh.enc shInt) y.2.1), li y.2.2.1, .sl 1 (List.map (Sh.enc (.sl 1 shInt)) y.2.2.2.1), li y.2.2.2.2.1, .sl 2 (List.map (Sh.enc shSns) y.2.2.2.2.2.1), .sl 2 (List.map (Sh.enc shLnk) y.2.2.2.2.2.2.1), .sl 2 (List.map (Sh.enc shLnk) y.2.2.2.2.2.2.2.1)] = _
  rw [e1, e2, e3, e4]; rfl
theorem ents_encL (l : List (Val shEnt)) : List.map (Sh.enc shEnt) l = (List.map Ent.ofVal l).map Ent.enc := by
  rw [List.map_map]
  exact List.map_congr_left fun y _ => ent_encV y
theorem ents_enc (x : Val (.sl 8 shEnt)) : List.map (Sh.enc shEnt) x = (entsOf x).map Ent.enc := ents_encL x
theorem entsVD {w : World} {E : Go.Dl.Env} {v : Value} (x : Val (.sl 8 shEnt)) (h : Go.Dl.VD w E (Go.Dl.ArgD (.sl 8 shEnt) x) v) : Go.Dl.VD w E (dv (.sl 8 ((entsOf x).map Ent.enc))) v := by
  have e : Go.Dl.ArgD (.sl 8 shEnt) x = dv (.sl 8 ((entsOf x).map Ent.enc)) := by
    show dv (.sl 8 (List.map (Sh.enc shEnt) x)) = _
    rw [ents_enc x]
  rw [← e]; exact h
theorem lexVD {w : World} {E : Go.Dl.Env} {v : Value} (x : Val shLex) (h : Go.Dl.VD w E (Go.Dl.ArgD shLex x) v) : Go.Dl.VD w E (.agg [.c (.sl 2 ((invOf x.1).map Phon.enc)), .c (.sl 8 ((entsOf x.2.1).map Ent.enc))]) v := by
  have e : Go.Dl.ArgD shLex x = .agg [.c (.sl 2 ((invOf x.1).map Phon.enc)), .c (.sl 8 ((entsOf x.2.1).map Ent.enc))] := by
    show Go.Dl.D.agg [.c (.sl 2 (List.map (Sh.enc shPhon) x.1.1)), .c (.sl 8 (List.map (Sh.enc shEnt) x.2.1))] = _
    rw [phon_enc x.1.1, ents_enc x.2.1]; rfl
  rw [← e]; exact h
theorem keyVD {w : World} {E : Go.Dl.Env} {v : Value} (x : Val shKey) (h : Go.Dl.VD w E (Go.Dl.ArgD shKey x) v) : Go.Dl.VD w E (.agg [.c (.sl 1 (ints (altOf x.1))), .c (li x.2.1), .c (ls x.2.2.1)]) v := h

theorem read1 {w : World} {K} {d0 : Go.Dl.D} {v0 : Value} (h0 : Go.Dl.VD w K d0 v0) : ∀ (j : Nat) d v, [d0][j]? = some d → #[v0][j]? = some v → Go.Dl.VD w K d v := fun j d v h1 h2 => by
  match j with
  | 0 => simp at h1 h2; subst h1; subst h2; exact h0
  | j + 1 => simp at h1
theorem read2 {w : World} {K} {d0 d1 : Go.Dl.D} {v0 v1 : Value} (h0 : Go.Dl.VD w K d0 v0) (h1 : Go.Dl.VD w K d1 v1) : ∀ (j : Nat) d v, [d0, d1][j]? = some d → #[v0, v1][j]? = some v → Go.Dl.VD w K d v := fun j d v g1 g2 => by
  match j with
  | 0 => simp at g1 g2; subst g1; subst g2; exact h0
  | 1 => simp at g1 g2; subst g1; subst g2; exact h1
  | j + 2 => simp at g1
theorem read3 {w : World} {K} {d0 d1 d2 : Go.Dl.D} {v0 v1 v2 : Value} (h0 : Go.Dl.VD w K d0 v0) (h1 : Go.Dl.VD w K d1 v1) (h2 : Go.Dl.VD w K d2 v2) : ∀ (j : Nat) d v, [d0, d1, d2][j]? = some d → #[v0, v1, v2][j]? = some v → Go.Dl.VD w K d v := fun j d v g1 g2 => by
  match j with
  | 0 => simp at g1 g2; subst g1; subst g2; exact h0
  | 1 => simp at g1 g2; subst g1; subst g2; exact h1
  | 2 => simp at g1 g2; subst g1; subst g2; exact h2
  | j + 3 => simp at g1

end Go.Proofs.YtdmmhemfnnbddaaGreatDoor
