/- The statements about numbers: their frames. For every input the law returns true. -/
import Derived.Test.YtfliennlinngeaaDoorCards
import Derived.Test.YtfliennlinngeaaDoorTie
import Derived.WalkKit
import Derived.ProofKit
import Derived.OpenShut
import Derived.ShutString
import Derived.ChangeOld
import Derived.Below
import Derived.Deep.DeepHandedRow
import Derived.Lib.LaidIn
import Derived.Lib.LaidTab
import Derived.Stop.LaidErr
import Derived.Test.YtfliennlinngeaaDoorm3
set_option linter.all false
set_option linter.unusedVariables false
set_option linter.unusedSimpArgs false
namespace Go.Proofs.YtfliennlinngeaaDoor
open Go.ChangeShapes Go.WideShapes Go.ChangeAt Go.RowKit
open Go.ChangeMaps (open_string shut_string)
open Go.Dl (Sh Val)

theorem Tryd.own : ownKnob Tryd.prog.godebug = none := by kernel_rfl
theorem Tryd.laidOut : laidOutB Tryd.prog = true := by kernel_rfl

def deB32 : List Int := [0, 1, 28, 2, 29, 14, 24, 3, 30, 22, 20, 15, 25, 17, 4, 8, 31, 27, 13, 23, 21, 19, 16, 7, 26, 12, 18, 6, 11, 5, 10, 9]
def deB64 : List Int := [0, 1, 56, 2, 57, 49, 28, 3, 61, 58, 42, 50, 38, 29, 17, 4, 62, 47, 59, 36, 45, 43, 51, 22, 53, 39, 33, 30, 24, 18, 12, 5, 63, 55, 48, 27, 60, 41, 37, 16, 46, 35, 44, 21, 52, 32, 23, 11, 54, 26, 40, 15, 34, 20, 31, 10, 25, 14, 19, 9, 13, 8, 7, 6]
def limZ : List Int := [-1099511627776, 1099511627776]
noncomputable def low : Nat := (World.holding Tryd.prog default ⟨#[], #[], []⟩).heap.size
noncomputable def laidWorld (os : Os) : World :=
  let w0 := World.holding Tryd.prog os ⟨#[.cells #[.string ⟨#[118, 97, 108, 117, 101, 32, 111, 117, 116, 32, 111, 102, 32, 114, 97, 110, 103, 101]⟩] 95, .cells #[.string ⟨#[105, 110, 118, 97, 108, 105, 100, 32, 115, 121, 110, 116, 97, 120]⟩] 95], #[], []⟩
  let put (h : Array Obj) (g : Nat) (cs : Array Value) : Array Obj := h.modify g fun
    | .cells _ t frozen => .cells cs t frozen
    | o => o
  let h0 := put w0.heap 0 (limZ.map fun z => Value.int .i64 z).toArray
  let h1 := put h0 1 #[.iface 93 (.pointer (some ⟨low + 1, 0, none⟩))]
  let h2 := put h1 2 #[.iface 93 (.pointer (some ⟨low, 0, none⟩))]
  let h3 := put h2 3 (Go.Lib.pow10Tab.map fun z => Value.int .u64 z).toArray
  let h4 := put h3 4 (deB32.map fun z => Value.int .u8 z).toArray
  let h5 := put h4 5 (deB64.map fun z => Value.int .u8 z).toArray
  { w0 with heap := h5 }
def laidL : List (String × DataW Unit) := [("math/bits.deBruijn32tab", Rows.laid_math_bits_deBruijn32tab), ("math/bits.deBruijn64tab", Rows.laid_math_bits_deBruijn64tab), ("internal/strconv.uint64pow10", Rows.laid_internal_strconv_uint64pow10), ("strconv.ErrRange", Rows.laid_strconv_ErrRange), ("strconv.ErrSyntax", Rows.laid_strconv_ErrSyntax), ("langdoc/num.limits", Rows.laid_langdoc_num_limits)]
theorem laidP : (Rows.laid_internal_strconv_uint64pow10 : DataW Unit) = Go.Lib.tabData .u64 Go.Lib.pow10Tab := by kernel_rfl
theorem laidZ : (Rows.laid_langdoc_num_limits : DataW Unit) = Go.Lib.tabData .i64 limZ := by kernel_rfl
theorem gP : Tryd.prog.globalNamed "internal/strconv.uint64pow10" = some 3 := by kernel_rfl
theorem gZ : Tryd.prog.globalNamed "langdoc/num.limits" = some 0 := by kernel_rfl
theorem gS : Tryd.prog.globalNamed "strconv.ErrSyntax" = some 1 := by kernel_rfl
theorem gR : Tryd.prog.globalNamed "strconv.ErrRange" = some 2 := by kernel_rfl
theorem pow_is {W : World} (h : laidMet Tryd.prog laidL W) : Go.Lib.TabIs Tryd.prog W "internal/strconv.uint64pow10" .u64 Go.Lib.pow10Tab := by
  have h2 := h.tail.tail
  rw [laidP] at h2
  exact Go.Lib.tabIs_of_head gP (by kernel_rfl) Tryd.underlying98 Tryd.underlying69 (by kernel_rfl) (by kernel_rfl) h2
theorem lim_is {W : World} (h : laidMet Tryd.prog laidL W) : Go.Lib.TabIs Tryd.prog W "langdoc/num.limits" .i64 limZ := by
  have h2 := h.tail.tail.tail.tail.tail
  rw [laidZ] at h2
  exact Go.Lib.tabIs_of_head gZ (by kernel_rfl) Tryd.underlying42 Tryd.underlying3 (by kernel_rfl) (by kernel_rfl) h2
theorem tab_cells {W : World} {n : String} {g : Nat} {k : IntKind} {zs : List Int} (hg : Tryd.prog.globalNamed n = some g) (ht : Go.Lib.TabIs Tryd.prog W n k zs) {o : Nat} {v : Value} (hv : (zs.map fun z => Value.int k z)[o]? = some v) : v.oneCell' = true ∧ W.cell? ⟨g, o, none⟩ = some v := by
  refine ⟨?_, ?_⟩
  · rw [List.getElem?_map] at hv
    obtain ⟨z, _, rfl⟩ := Option.map_eq_some_iff.1 hv
    rfl
  · have := World.var?_cell hg ht o
    rw [this]
    simpa using hv
theorem tabs_at {W : World} (h : laidMetH Tryd.prog laidL W) : Go.Dl.TabsAt W := by
  have hm : laidMet Tryd.prog laidL W := h
  intro g vs hg o v hv
  unfold Go.Dl.gtab at hg
  split at hg
  · rename_i e
    subst e
    injection hg with hg
    subst hg
    exact tab_cells gZ (lim_is hm) hv
  · split at hg
    · rename_i e
      subst e
      injection hg with hg
      subst hg
      exact tab_cells gP (pow_is hm) hv
    · cases hg
theorem size_at {W : World} (h : laidMetH Tryd.prog laidL W) : Go.Dl.GSz W := by
  have hm : laidMet Tryd.prog laidL W := h
  intro g hg vs hvs
  obtain rfl : g = 3 := by simpa [Go.Dl.ztab] using hg
  have e : vs = Go.Lib.pow10Tab.map fun z => Value.int .u64 z := by
    have : Go.Dl.gtab 3 = some (Go.Lib.pow10Tab.map fun z => Value.int .u64 z) := rfl
    rw [this] at hvs; injection hvs with hvs; exact hvs.symm
  subst e
  have ht := pow_is hm
  rw [Go.Lib.TabIs, World.var?, gP] at ht
  simp only [Option.bind_some] at ht
  cases hh : W.heap[3]? with
  | none => rw [hh] at ht; cases ht
  | some ob =>
    rw [hh] at ht
    cases ob with
    | cells cs e m => injection ht with ht; subst ht; exact ⟨_, _, _, rfl, by simp⟩
    | _ => cases ht
theorem star : "*" ++ "errors.errorString" = "*errors.errorString" := by decide
theorem row93 (u : TypeId) (h : Tryd.prog.typeName? 3 u = some "*errors.errorString") : u = 93 :=
  typeName_ptr_named (nm := "errors.errorString") (by rw [star]; kernel_rfl) (by kernel_rfl) (by decide) u (by rw [star]; exact h)
theorem errs_at {W : World} (h : laidMetH Tryd.prog laidL W) : ∀ g ∈ Go.Dl.etab, ∃ ev, W.cell? ⟨g, 0, none⟩ = some ev ∧ (ev = .nilIface ∨ ∃ te pe, ev = .iface te pe) := by
  have hm : laidMet Tryd.prog laidL W := h
  obtain ⟨a, s, hv, _, _, _⟩ := laid_sentinel hm.tail.tail.tail gR (by kernel_rfl) Tryd.underlying39 row93 Tryd.underlying93 Tryd.underlying95 rfl rfl Tryd.underlying9 (by kernel_rfl) (by kernel_rfl)
  obtain ⟨b, s2, hv2, _, _, _⟩ := laid_sentinel hm.tail.tail.tail.tail gS (by kernel_rfl) Tryd.underlying39 row93 Tryd.underlying93 Tryd.underlying95 rfl rfl Tryd.underlying9 (by kernel_rfl) (by kernel_rfl)
  intro g hg
  have hg2 : g = 1 ∨ g = 2 := by simpa [Go.Dl.etab] using hg
  rcases hg2 with rfl | rfl
  · exact ⟨_, by simpa using World.var?_cell gS hv2 0, .inr ⟨_, _, rfl⟩⟩
  · exact ⟨_, by simpa using World.var?_cell gR hv 0, .inr ⟨_, _, rfl⟩⟩

theorem bulk_all {H : Type} : ∀ l : List (DataW H), Rows.uptoBulkAll l = (l.map Rows.uptoBulk).sum
  | [] => by simp [Rows.uptoBulkAll]
  | d :: l => by simp [Rows.uptoBulkAll, bulk_all l]
theorem isBulk (H : Type) : Go.Dl.IsBulk (Rows.uptoBulk (H := H)) where
  pos d := by
    cases d with
    | lit l => cases l <;> simp [Rows.uptoBulk]
    | nil => simp [Rows.uptoBulk]
    | ptr d => simp [Rows.uptoBulk]
    | slice elems spare => simp [Rows.uptoBulk]
    | agg parts => simp [Rows.uptoBulk]
    | iface t d => simp [Rows.uptoBulk]
    | map entries => simp [Rows.uptoBulk]
    | held h => simp [Rows.uptoBulk]
  str bs := by simp [Rows.uptoBulk]
  sl es ss := by simp only [Rows.uptoBulk, bulk_all]; omega
  agg ps := by simp only [Rows.uptoBulk, bulk_all]; omega

abbrev shInt : Sh := .int .i64
def altOf (v : Val (.sl 1 shInt)) : List Int := v
theorem strVD {w : World} {E : Go.Dl.Env} {v : Value} (x : Val .str) (h : Go.Dl.VD w E (Go.Dl.ArgD .str x) v) : Go.Dl.VD w E (dv (ls x)) v := h
theorem intVD {w : World} {E : Go.Dl.Env} {v : Value} (x : Val shInt) (h : Go.Dl.VD w E (Go.Dl.ArgD shInt x) v) : Go.Dl.VD w E (dv (li x)) v := h
theorem intsVD {w : World} {E : Go.Dl.Env} {v : Value} (x : Val (.sl 1 shInt)) (h : Go.Dl.VD w E (Go.Dl.ArgD (.sl 1 shInt) x) v) : Go.Dl.VD w E (dv (.sl 1 (ints (altOf x)))) v := h
theorem ints_wf {x : Val (.sl 1 shInt)} (h : Sh.ok (.sl 1 shInt) x) : ∀ n ∈ altOf x, wfI n := h.2

theorem read1 {w : World} {K} {d0 : Go.Dl.D} {v0 : Value} (h0 : Go.Dl.VD w K d0 v0) : ∀ (j : Nat) d v, [d0][j]? = some d → #[v0][j]? = some v → Go.Dl.VD w K d v := fun j d v h1 h2 => by
  match j with
  | 0 => simp at h1 h2; subst h1; subst h2; exact h0
  | j + 1 => simp at h1
theorem read2 {w : World} {K} {d0 d1 : Go.Dl.D} {v0 v1 : Value} (h0 : Go.Dl.VD w K d0 v0) (h1 : Go.Dl.VD w K d1 v1) : ∀ (j : Nat) d v, [d0, d1][j]? = some d → #[v0, v1][j]? = some v → Go.Dl.VD w K d v := fun j d v g1 g2 => by
  match j with
  | 0 => simp at g1 g2; subst g1; subst g2; exact h0
  | 1 => simp at g1 g2; subst g1; subst g2; exact h1
  | j + 2 => simp at g1
theorem read3 {w : World} {K} {d0 d1 d2 : Go.Dl.D} {v0 v1 v2 : Value} (h0 : Go.Dl.VD w K d0 v0) (h1 : Go.Dl.VD w K d1 v1) (h2 : Go.Dl.VD w K d2 v2) : ∀ (j : Nat) d v, [d0, d1, d2][j]? = some d → #[v0, v1, v2][j]? = some v → Go.Dl.VD w K d v := fun j d v g1 g2 => by
  match j with
  | 0 => simp at g1 g2; subst g1; subst g2; exact h0
  | 1 => simp at g1 g2; subst g1; subst g2; exact h1
  | 2 => simp at g1 g2; subst g1; subst g2; exact h2
  | j + 3 => simp at g1

end Go.Proofs.YtfliennlinngeaaDoor
