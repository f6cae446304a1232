/- The logic of data over the kit's walk, and contracts of the functions that the laws reach, each said by plain data; part 3 of 4. -/
import Derived.Sort.Grow
import Derived.Laws.MakeOwn
import Derived.ProofKit
import Derived.Deep.Slices
import Derived.OpenShut
import Derived.ChangeOld
import Derived.Laws.RangeString
import Derived.Test.YtfliennlinngeaaDoorRows
import Derived.KernelRfl
import Derived.Shelf.SortM.Plain
import Derived.Shelf.SortM.SortNone
import Derived.Ground.SlgmProg
import Derived.Test.YtfliennlinngeaaDoorChecked
import Derived.Shelf.Strconv.AtoiAll
import Derived.Shelf.Strconv.Itoa3
import Derived.Ground.NamesProg
import Derived.Shelf.SlicesE.DeleteFunc
import Derived.Shelf.SlicesE.Clone
import Derived.Ground.SlgfProg
import Derived.Ground.SlgnProg
import Derived.Shelf.SlGeneric
import Derived.Lib.ItoaNum
import Derived.Lib.AtoiAll
import Derived.WalkKit
import Derived.BigCall
import Derived.Lib.LaidTab
import Derived.Lib.AtoiErrMem
import Derived.Maps.OwnSet
import Derived.Lib.SliceRun
import Derived.Test.YtfliennlinngeaaDoorm1
set_option linter.all false
set_option linter.unusedVariables false
set_option linter.unusedSimpArgs false
/- The logic of data: an iterator's own text: slots said by data, no memory of its own; beside them what is said of the caller's world. -/
namespace Go.Dl
open Go.RowKit
noncomputable section

structure Flat (m n : Nat) (s : DS) (K : KSet) (a : Act) (w : World) : Prop where
  kok : KOk w K
  sl : ∀ t, VD w (E0 K) (s.sl t) (a.tmps.getD t undef)
  size : a.tmps.size = s.n
  small : s.n ≤ NB
  mrk : n ≤ w.heap.size
  mn : m ≤ n
  defers : ∃ Ds : List Nat, Ds.Nodup ∧ a.defers = Ds.map (fun D => { target := .collected D, args := #[] }) ∧ ∀ D ∈ Ds, m ≤ D ∧ w.heap[D]? = some (.deferred (some []))

def Ext (w : World) (K : KSet) (w' : World) (K' : KSet) : Prop := ∀ b o, K b o → K' b o ∧ w'.cell? ⟨b, o, none⟩ = w.cell? ⟨b, o, none⟩

theorem Ext.refl (w : World) (K : KSet) : Ext w K w K := fun _ _ h => ⟨h, rfl⟩
theorem Ext.trans {a b c : World} {K L M : KSet} (h : Ext a K b L) (k : Ext b L c M) : Ext a K c M := fun x o hx => ⟨(k x o (h x o hx).1).1, (k x o (h x o hx).1).2.trans (h x o hx).2⟩
theorem Ext.later {a b : World} {K L : KSet} (h : Ext a K b L) : Later a (E0 K) b (E0 L) := ⟨h, rfl, rfl⟩

def DS.flat (s : DS) : DS := { n := s.n, sl := fun t => (s.sl t).tr noName, bx := noMem, pl := false }
def DS.bare (s : DS) : DS := { n := s.n, sl := s.sl, bx := noMem, pl := false }

def IW (P : Program) (m n : Nat) (J : Option Nat → World → KSet → Prop) (ro : Option Nat) (c : Code) (s : DS) (g : Option Nat) (Q : Exit → DS → Option Nat → Prop) : Prop :=
  ∀ K a w, Flat m n s K a w → J g w K → c.wpIn (rd ro) 0 P (fun e a' w' => ∃ s' g' K', Q e s' g' ∧ Flat m n s' K' a' w' ∧ J g' w' K' ∧ Ext w K w' K') a w

def thenI (next : DS → Option Nat → Prop) (Q : Exit → DS → Option Nat → Prop) : Exit → DS → Option Nat → Prop
  | .normal, s, g => next s g
  | e, s, g => Q e s g

def inBlockI (id : Nat) (Q : Exit → DS → Option Nat → Prop) : Exit → DS → Option Nat → Prop
  | .exit id', s, g => if id' = id then Q .normal s g else Q (.exit id') s g
  | e, s, g => Q e s g

section
variable {P : Program} {m n : Nat} {J : Option Nat → World → KSet → Prop} {s : DS} {g ro : Option Nat} {Q : Exit → DS → Option Nat → Prop}

theorem IW.mono {c : Code} {Q' : Exit → DS → Option Nat → Prop} (h : IW P m n J ro c s g Q) (hq : ∀ e s g, Q e s g → Q' e s g) : IW P m n J ro c s g Q' :=
  fun K a w hf hj => wpIn_mono (h K a w hf hj) fun _ _ _ ⟨s', g', K', h1, h2⟩ => ⟨s', g', K', hq _ _ _ h1, h2⟩

theorem iw_skip (h : Q .normal s g) : IW P m n J ro .skip s g Q := fun K _ w hf hj => wpIn_skip ⟨s, g, K, h, hf, hj, Ext.refl _ _⟩
theorem iw_exit {id : Nat} (h : Q (.exit id) s g) : IW P m n J ro (.exit id) s g Q := fun K _ w hf hj => wpIn_exit ⟨s, g, K, h, hf, hj, Ext.refl _ _⟩
theorem iw_ret (h : Q .ret s g) : IW P m n J ro .ret s g Q := fun K _ w hf hj => wpIn_ret ⟨s, g, K, h, hf, hj, Ext.refl _ _⟩

theorem iw_seq {x y : Code} (h : IW P m n J ro x s g (thenI (fun s' g' => IW P m n J ro y s' g' Q) Q)) : IW P m n J ro (.seq x y) s g Q := by
  intro K a w hf hj
  refine wpIn_seq (wpIn_mono (h K a w hf hj) ?_)
  rintro e a' w' ⟨s', g', K', h1, h2, h3, h4⟩
  cases e with
  | normal => exact wpIn_mono (h1 K' a' w' h2 h3) fun _ _ _ ⟨s2, g2, K2, q1, q2, q3, q4⟩ => ⟨s2, g2, K2, q1, q2, q3, h4.trans q4⟩
  | _ => exact ⟨s', g', K', h1, h2, h3, h4⟩

theorem iw_block {id : Nat} {c : Code} (h : IW P m n J ro c s g (inBlockI id Q)) : IW P m n J ro (.block id c) s g Q := by
  intro K a w hf hj
  refine wpIn_block (wpIn_mono (h K a w hf hj) ?_)
  rintro e a' w' ⟨s', g', K', h1, h2⟩
  cases e with
  | exit id' =>
    simp only [Exit.inBlock, inBlockI] at h1 ⊢
    split
    · rename_i he; rw [if_pos he] at h1; exact ⟨s', g', K', h1, h2⟩
    · rename_i he; rw [if_neg he] at h1; exact ⟨s', g', K', h1, h2⟩
  | _ => exact ⟨s', g', K', h1, h2⟩

theorem Flat.rel {K : KSet} {a : Act} {w : World} (h : Flat m n s K a w) (ro : Option Nat) : RelE ⟨w, K, fun _ _ => False, (E0 K).ρ, NB, ro, m⟩ s.bare (E0 K) a w :=
  ⟨(wi_zero w K h.kok).ro ro m, h.sl, h.size, ⟨Nat.le_trans h.mn h.mrk, h.defers⟩, ⟨h.small, Nat.le_refl _⟩, fun h => (by cases h)⟩

theorem Flat.ev {K : KSet} {a : Act} {w : World} (h : Flat m n s K a w) (x : Operand) : VD w (E0 K) (s.ev x) (a.eval x) := (h.rel none).ev x

theorem iw_cond {c : Operand} {x y : Code} {t : Bool} (hc : s.ev c = .one (.c (.lit (.bool t)))) (ht : t = true → IW P m n J ro x s g Q) (hf : t = false → IW P m n J ro y s g Q) : IW P m n J ro (.cond c x y) s g Q := by
  intro K a w hfl hj
  have hv := hfl.ev c
  rw [hc] at hv
  exact wpIn_cond_split hv.lit (fun h => ht h K a w hfl hj) (fun h => hf h K a w hfl hj)

theorem flat_after {K : KSet} {a : Act} {w : World} (hf : Flat m n s K a w) (hJ : Stab n J) (hj : J g w K) {ro : Option Nat} {s' : DS} {a' : Act} {w' : World} (h : Rel ⟨w, K, fun _ _ => False, (E0 K).ρ, NB, ro, m⟩ s' a' w') :
    ∃ K', Flat m n s'.flat K' a' w' ∧ J g w' K' ∧ Ext w K w' K' := by
  obtain ⟨E', h⟩ := h
  have hb := h.wi.turn.below
  refine ⟨E'.K, ⟨h.wi.kok, fun t => VD.tr (renames_none E' (E0 E'.K) rfl) (h.sl t), h.size, h.small.1, Nat.le_trans hf.mrk hb.size, hf.mn, h.defers.2⟩, ?_, fun b o hk => ?_⟩
  · refine hJ g w w' K E'.K hj ⟨hb.os, hb.tape, hb.output, hb.size, fun b hlt => hb.block b (Nat.lt_of_lt_of_le hlt hf.mrk), fun b arr e m hc => hb.block b (Array.getElem?_eq_some_iff.1 hc).1⟩ fun b o hk => ?_
    rcases Nat.lt_or_ge b w.heap.size with hlt | hge
    · exact .inl (h.wi.kold b o hlt id hk)
    · exact .inr ⟨hge, h.wi.kok b o hk⟩
  · have hk' := h.wi.kin b o hk
    exact ⟨hk', hb.cell (p := ⟨b, o, none⟩) (lt_of_cell (hf.kok b o hk))⟩

theorem iw_pure {c : Code} {Q' : Exit → DS → Prop} (hJ : Stab n J) (h : DW P c s.bare Q') (hq : ∀ e s', Q' e s' → Q e s'.flat g) : IW P m n J ro c s g Q := by
  intro K a w hf hj
  refine wpIn_mono (h _ a w ⟨_, hf.rel ro⟩) ?_
  rintro e a' w' ⟨s', h1, h2⟩
  obtain ⟨K', h3, h4, h5⟩ := flat_after hf hJ hj h2
  exact ⟨_, g, K', hq _ _ h1, h3, h4, h5⟩

theorem iw_pureQ {c : Code} (hJ : Stab n J) (h : DW P c s.bare (fun e s' => Q e s'.flat g)) : IW P m n J ro c s g Q := iw_pure hJ h fun _ _ h => h

def DS.FSub (s s' : DS) : Prop := s.n = s'.n ∧ ∀ t, s'.sl t = .any ∨ DLe (s.sl t) (s'.sl t)

theorem fsub_kn {s : DS} {N : Nat} {sls : List (Nat × D)} (hn : s.n = N) (h1 : AllS s sls) : s.FSub (kn N sls noMem) := ⟨hn, AllS.get h1⟩

theorem Flat.sub {s' : DS} {K : KSet} {a : Act} {w : World} (h : Flat m n s K a w) (hs : s.FSub s') : Flat m n s' K a w :=
  ⟨h.kok, fun t => by
    rcases hs.2 t with e | e
    · rw [e]; exact .any _
    · exact e w (E0 K) _ (h.sl t), h.size.trans hs.1, hs.1 ▸ h.small, h.mrk, h.mn, h.defers⟩

theorem iw_loop {α : Type} {c : Code} (S : α → DS) (G : α → Option Nat) (Inv : α → Prop) (μ : α → Nat) (x0 : α) (h0 : s.FSub (S x0)) (hg : g = G x0) (hi : Inv x0)
    (round : ∀ x, Inv x → IW P m n J ro c (S x) (G x) (thenI (fun s' g' => ∃ x', Inv x' ∧ μ x' < μ x ∧ s'.FSub (S x') ∧ g' = G x') Q)) : IW P m n J ro (.loop c) s g Q := by
  intro K a w hf hj b k cs hro hb hroom
  have key : ∀ q x, μ x = q → Inv x → ∀ K a w, Flat m n (S x) K a w → J (G x) w K →
      ∃ e a' w', (∃ s' g' K', Q e s' g' ∧ Flat m n s' K' a' w' ∧ J g' w' K' ∧ Ext w K w' K') ∧ ArrivesIn (Machine.fenced P (rd ro)) P (lone (b.atR a (.code c :: .inLoop c :: k)) cs w) b k cs e a' w' := by
    intro q
    induction q using Nat.strongRecOn with
    | _ q ih =>
      intro x hm hI K a w hf hj
      obtain ⟨e, a₁, w₁, ⟨s₁, g₁, K₁, hq, hf₁, hj₁, he₁⟩, harr⟩ := round x hI K a w hf hj b (.inLoop c :: k) cs hro hb hroom
      cases e with
      | normal =>
        obtain ⟨x', hI₁, hlt, hsub, rfl⟩ := hq
        obtain ⟨e₂, a₂, w₂, ⟨s₂, g₂, K₂, q1, q2, q3, q4⟩, harr₂⟩ := ih (μ x') (hm ▸ hlt) x' rfl hI₁ K₁ a₁ w₁ (hf₁.sub hsub) hj₁
        exact ⟨e₂, a₂, w₂, ⟨s₂, g₂, K₂, q1, q2, q3, he₁.trans q4⟩, .of_steps (StepsIn.trans harr (.one (fenced_calm hb hroom rfl) stepR_inLoop)) harr₂⟩
      | exit id => exact ⟨_, a₁, w₁, ⟨s₁, g₁, K₁, hq, hf₁, hj₁, he₁⟩, .pass (x := .inLoop c) rfl (fun _ _ => .inl (by simp)) harr⟩
      | goto l => exact ⟨_, a₁, w₁, ⟨s₁, g₁, K₁, hq, hf₁, hj₁, he₁⟩, .pass (x := .inLoop c) rfl (fun _ _ => .inl (by simp)) harr⟩
      | ret => exact ⟨_, a₁, w₁, ⟨s₁, g₁, K₁, hq, hf₁, hj₁, he₁⟩, .pass (x := .inLoop c) rfl (fun _ _ => .inl (by simp)) harr⟩
      | panic ch => exact ⟨_, a₁, w₁, ⟨s₁, g₁, K₁, hq, hf₁, hj₁, he₁⟩, .pass (x := .inLoop c) rfl (fun _ _ => .inl (by simp)) harr⟩
      | outgrown => exact ⟨_, a₁, w₁, ⟨s₁, g₁, K₁, hq, hf₁, hj₁, he₁⟩, .pass (x := .inLoop c) rfl (fun _ _ => .inl (by simp)) harr⟩
  obtain ⟨e, a', w', hq, harr⟩ := key _ x0 rfl hi K a w (hf.sub h0) (hg ▸ hj)
  exact ⟨e, a', w', hq, .of_steps (.one (fenced_calm hb hroom rfl) stepR_loop) harr⟩

/-! ### A region in which yield is called -/

def Yields (P : Program) (m n : Nat) (J : Option Nat → World → KSet → Prop) (l : Nat) (xs : List (List D)) : Prop :=
  l < m ∧ ∀ (k : Nat) ds W L (va : Array Value), xs[k]? = some ds → J (some k) W L → n ≤ W.heap.size → va.size = ds.length → (∀ (j : Nat) d v, ds[j]? = some d → va[j]? = some v → VD W (E0 L) d v) →
      YieldAt Fence.wide 0 P l va W fun e W' => ∃ b, e = .returned (.bool b) ∧ J (if b then some (k + 1) else none) W' L ∧ Keep m L W W'

def yieldD (P : Program) (ops : List Oper) (l : Nat) (xs : List (List D)) (o : Oper) (s : DS) (g : Option Nat) (K : DS → Option Nat → Prop) : Prop :=
  ∃ t, wantD ops s.bare o = some t ∧ (t = false → K (s.put o.dst (.tup [])) g) ∧
    (t = true → ∃ f args tys k ds, o.op = .call { callee := .value f, args := args, argTypes := tys } ∧ s.ev f = .one (.c (.lit (.func (.yield l) #[] #[]))) ∧ g = some k ∧ xs[k]? = some ds ∧ DLeL (args.toList.map s.ev) ds ∧
      ∀ b : Bool, K (s.put o.dst (.one (.c (.lit (.bool b))))) (if b then some (k + 1) else none))

theorem Flat.put {K : KSet} {a : Act} {w w' : World} (h : Flat m n s K a w) (hl : ∀ b o, K b o → w'.cell? ⟨b, o, none⟩ = w.cell? ⟨b, o, none⟩) (hsz : w.heap.size ≤ w'.heap.size) (hz : GSz w')
    (hD : ∀ D : Nat, m ≤ D → w.heap[D]? = some (.deferred (some [])) → w'.heap[D]? = some (.deferred (some []))) {dst : Option Nat} (hd : ∀ d, dst = some d → d < s.n) {d : D} {v : Value} (hv : VD w' (E0 K) d v) : Flat m n (s.put dst d) K (a.put dst v) w' := by
  have hla : Later w (E0 K) w' (E0 K) := ⟨fun b o hb => ⟨hb, hl b o hb⟩, rfl, rfl⟩
  refine ⟨h.kok.move hl hz, fun t => ?_, ?_, by rw [put_n]; exact h.small, Nat.le_trans h.mrk hsz, h.mn, ?_⟩
  · rw [getD_put a dst v t (fun d he => by rw [h.size]; exact hd d he)]
    cases dst with
    | none => simpa [DS.put] using (h.sl t).mono hla
    | some d' =>
      by_cases he : t = d'
      · subst he; simpa [DS.put] using hv
      · have : ¬ (some d' = some t) := by simpa using fun e => he e.symm
        simp only [DS.put, if_neg he, if_neg this]
        exact (h.sl t).mono hla
  · rw [show (a.put dst v).tmps.size = a.tmps.size from by cases dst <;> simp [Act.put], h.size, put_n]
  · obtain ⟨Ds, h1, h2, h3⟩ := h.defers
    exact ⟨Ds, h1, by rw [show (a.put dst v).defers = a.defers from by cases dst <;> rfl]; exact h2, fun D hDs => ⟨(h3 D hDs).1, hD D (h3 D hDs).1 (h3 D hDs).2⟩⟩

theorem roundIn_rd {ro : Option Nat} {l : Nat} {f : FuncId} {tmps : Array Value} {assign body : Code} {w : World} {R : Ending → World → Prop} (h : RoundIn Fence.wide 0 P l f tmps assign body w R) : RoundIn (rd ro) (0 - 1) P l f tmps assign body w R := by
  cases ro with
  | none => exact h
  | some l => exact h

theorem walk_pre {Q' : Exit → Act → World → Prop} {ops r : List Oper} {X : Origin} {N : Nat} {K : DS → Prop} (hK : ∀ s a w, s.n = N → K s → Rel X s a w → wpListIn (rd X.ro) 0 P ops.toArray Q' r a w) : ∀ (l : List Oper) (s : DS) (a : Act) (w : World), dstB l N = true → s.n = N → Rel X s a w →
    walkS P ops l s K → wpListIn (rd X.ro) 0 P ops.toArray Q' (l ++ r) a w
  | [], s, a, w, _, hn, hr, h => hK s a w hn h hr
  | o :: l, s, a, w, hb, hn, hr, h => by
    obtain ⟨h0, h1, h2⟩ := dstB_cons hb
    refine wpListIn_step fun K' hK' => ?_
    simp only [walkS, guardS] at h
    split at h
    · rename_i t ht
      rw [wantD_ok ht hr]
      split at h
      · rename_i h3
        rw [if_pos h3]
        refine wpIn_of_wp h0 (Oper.wp_mono ?_ (h (fun d hd => by rw [hn]; exact h1 d hd) X a w hr Q'))
        rintro a' w' ⟨s', ⟨hn', hs'⟩, hr'⟩
        exact hK' _ _ (walk_pre hK l s' a' w' h2 (hn'.trans hn) hr' hs')
      · rename_i h3
        rw [if_neg h3]
        refine ⟨fun f _ => rd_fn X.ro f, ?_⟩
        exact hK' _ _ (walk_pre hK l _ _ w h2 (by rw [put_n]; exact hn) (putAny hr (fun d hd => by rw [hn]; exact h1 d hd)) h)
    · exact h.elim

theorem dstB_sub {l l' : List Oper} {N : Nat} (h : dstB l N = true) (hs : ∀ x ∈ l', x ∈ l) : dstB l' N = true :=
  List.all_eq_true.2 fun x hx => List.all_eq_true.1 h x (hs x hx)

theorem yield_ok {l : Nat} {xs : List (List D)} (hY : Yields P m n J l xs) {ops r : List Oper} {o : Oper} {N : Nat} {ro : Option Nat} {Kp : DS → Option Nat → Prop} {Q' : Exit → Act → World → Prop} {K0 : KSet} {w0 : World}
    (hK : ∀ s g K a w, s.n = N → Kp s g → Flat m n s K a w → J g w K → Ext w0 K0 w K → wpListIn (rd ro) 0 P ops.toArray Q' r a w) {K : KSet} {a : Act} {w : World} (hb : dstB [o] N = true) (hn : s.n = N) (hf : Flat m n s K a w) (hj : J g w K) (he : Ext w0 K0 w K)
    (h : yieldD P ops l xs o s g Kp) : wpListIn (rd ro) 0 P ops.toArray Q' (o :: r) a w := by
  obtain ⟨h0, h1, _⟩ := dstB_cons hb
  have hd : ∀ d, o.dst = some d → d < s.n := fun d hd => by rw [hn]; exact h1 d hd
  refine wpListIn_step fun K' hK' => ?_
  obtain ⟨t, ht, hfa, htr⟩ := h
  have hrel := hf.rel ro
  rw [wantD_ok ht ⟨_, hrel⟩]
  cases t with
  | false =>
    simp only [Bool.false_eq_true, if_false]
    refine ⟨fun f _ => rd_fn ro f, hK' _ _ (hK _ g K _ w (by rw [put_n]; exact hn) (hfa rfl) (hf.put (fun _ _ _ => rfl) (Nat.le_refl _) hf.kok.z (fun _ _ h => h) hd ?_) hj he)⟩
    exact .tup [] #[] rfl (fun j d v h1 _ => by simp at h1)
  | true =>
    simp only [if_true]
    obtain ⟨f, args, tys, k, ds, ho, hfv, rfl, hx, hle, hb2⟩ := htr rfl
    have hv := hf.ev f
    rw [hfv] at hv
    have hfe : a.eval f = .func (.yield l) #[] #[] := hv.lit
    obtain ⟨hlen, hget⟩ := hle.get
    obtain ⟨fn, tmps, assign, body, hy, hR⟩ := hY.2 k ds w K (args.map a.eval) hx hj hf.mrk (by rw [← hlen]; simp) (fun j d v g1 g2 => by
      obtain ⟨d0, g3, g4⟩ := hget j d g1
      refine g4 w _ v ?_
      rw [List.getElem?_map] at g3
      rw [Array.getElem?_map] at g2
      cases hc : args[j]? with
      | none => rw [hc] at g2; cases g2
      | some x =>
        rw [Array.getElem?_toList] at g3
        rw [hc] at g2 g3
        injection g2 with g2; injection g3 with g3
        rw [← g2, ← g3]; exact hf.ev x)
    have hrun : (execOp a.eval o).run P w = .ok (.round l fn tmps assign body) w := by
      unfold execOp
      simp only [ho, Sem.run_bind]
      have hres : (resolve a.eval { callee := .value f, args := args, argTypes := tys } o.type).run P w = .ok { target := .fn (.yield l) #[], args := args.map a.eval } w := by simp [resolve, hfe, Deferred.ofValue]
      rw [hres]
      simp only [Result.andThen_ok, invoke]
      exact hy
    refine ⟨fun f _ => rd_fn ro f, ?_⟩
    rw [rd_round, Oper.semAt_eq ro _ o h0, hrun, Oper.uponIn_round]
    refine ⟨fun e => (by rw [rd_depth] at e; cases e), (roundIn_rd hR).mono ?_⟩
    rintro e W' ⟨b, rfl, q1, q2⟩
    have hln := hY.1
    exact hK' _ _ (hK _ _ K _ W' (by rw [put_n]; exact hn) (hb2 b) (hf.put q2.cells q2.size (q2.z hf.kok.z) (fun D hD hh => q2.others D _ hD hh (by simp)) hd (.one _ _ (.c _ _ (.lit _ rfl)))) q1
      (he.trans fun b o hb => ⟨hb, q2.cells b o hb⟩))

theorem iw_region (hJ : Stab n J) {l : Nat} {xs : List (List D)} (hY : Yields P m n J l xs) {id : Nat} {ops : List Oper} (i : Nat) {o : Oper} (ho : ops[i]? = some o) (hb : dstB ops s.n = true)
    (h : wk P (ops.map (·.dst)) (tagS (ops.take i)) s.bare fun s1 => yieldD P ops l xs o s1.flat g fun s2 g2 => wk P (ops.map (·.dst)) (tagS (ops.drop (i + 1))) s2.bare fun s3 => Q .normal s3.flat g2) : IW P m n J ro (.region id ops.toArray false) s g Q := by
  intro K a w hf hj
  have hi : i < ops.length := (List.getElem?_eq_some_iff.1 ho).1
  have hsp : ops = ops.take i ++ (o :: ops.drop (i + 1)) := by
    have : o = ops[i] := by rw [List.getElem?_eq_getElem hi] at ho; injection ho with ho; exact ho.symm
    rw [this, ← List.drop_eq_getElem_cons hi, List.take_append_drop]
  have hol : o ∈ ops := List.mem_of_getElem? ho
  refine wpIn_region_lit ?_
  conv => arg 6; rw [hsp]
  refine walk_pre (X := ⟨w, K, fun _ _ => False, (E0 K).ρ, NB, ro, m⟩) (N := s.n) (fun s1 a1 w1 hn1 hs1 hr1 => ?_) (ops.take i) s.bare a w (dstB_sub hb fun x hx => List.mem_of_mem_take hx) rfl ⟨_, hf.rel ro⟩ (wk_walkS _ _ h)
  obtain ⟨K1, q1, q2, q3⟩ := flat_after hf hJ hj hr1
  refine yield_ok (s := s1.flat) (N := s.n) (w0 := w) (K0 := K) hY (fun s2 g2 K2 a2 w2 hn2 hs2 hf2 hj2 he2 => ?_) (dstB_sub hb fun x hx => by simp at hx; exact hx ▸ hol) hn1 q1 q2 q3 hs1
  have := walk_pre (X := ⟨w2, K2, fun _ _ => False, (E0 K2).ρ, NB, ro, m⟩) (N := s.n) (r := []) (Q' := fun e a' w' => ∃ s' g' K', Q e s' g' ∧ Flat m n s' K' a' w' ∧ J g' w' K' ∧ Ext w K w' K') (fun s3 a3 w3 _ hs3 hr3 => ?_) (ops.drop (i + 1)) s2.bare a2 w2 (dstB_sub hb fun x hx => List.mem_of_mem_drop hx) hn2 ⟨_, hf2.rel ro⟩ (wk_walkS _ _ hs2)
  · rw [List.append_nil] at this; exact this
  · obtain ⟨K3, p1, p2, p3⟩ := flat_after hf2 hJ hj2 hr3
    exact wpListIn_nil ⟨_, g2, K3, hs3, p1, p2, he2.trans p3⟩

def iterQ (N : Nat) : Exit → DS → Option Nat → Prop
  | .normal, _, g | .ret, _, g => g = some N ∨ g = none
  | _, _, _ => False

theorem seqD_intro {f : FuncId} {fn : Func} {c : Code} {caps : List D} {xs : List (List D)} (hp : Program.plainF P f = true) (hf : P.funcs[f]? = some fn) (hb : fn.body = some c) (hres : fn.results.toList = []) (hn : caps.length + 1 ≤ fn.ntmps) (hN : fn.ntmps ≤ NB)
    (h : ∀ (n l : Nat) (J : Option Nat → World → KSet → Prop), Stab n J → Yields P n n J l xs → IW P n n J none c (initE fn.ntmps (.one (.c (.lit (.func (.yield l) #[] #[]))) :: caps) noMem) (some 0) (iterQ xs.length)) : SeqD P f caps xs := by
  refine ⟨hp, fun w K vs hk hl hv l J hlw hJ hY h0 => ?_⟩
  refine callsIn_of_wp_marks hf hb trivial ?_
  have hflat : Flat w.heap.size w.heap.size (initE fn.ntmps (.one (.c (.lit (.func (.yield l) #[] #[]))) :: caps) noMem) K { tmps := (#[Value.func (.yield l) #[] #[]] ++ vs) ++ Array.replicate (fn.ntmps - (#[Value.func (.yield l) #[] #[]] ++ vs).size) undef, defers := [] } w := by
    refine ⟨hk, fun t => ?_, ?_, hN, Nat.le_refl _, Nat.le_refl _, ⟨[], .nil, rfl, fun _ h => by cases h⟩⟩
    · simp only [initE]
      cases t with
      | zero =>
        have h3 : ((#[Value.func (.yield l) #[] #[]] ++ vs) ++ Array.replicate (fn.ntmps - (#[Value.func (.yield l) #[] #[]] ++ vs).size) undef).getD 0 undef = .func (.yield l) #[] #[] := by
          simp [Array.getElem?_append]
        rw [h3]
        exact .one _ _ (.c _ _ (.lit _ rfl))
      | succ t =>
        by_cases ht : t < caps.length
        · have h1 : caps[t]? = some (caps.getD t .any) := by simp [List.getD, ht]
          have h2 : vs[t]? = some (vs[t]'(by omega)) := Array.getElem?_eq_getElem (by omega)
          have h3 : ((#[Value.func (.yield l) #[] #[]] ++ vs) ++ Array.replicate (fn.ntmps - (#[Value.func (.yield l) #[] #[]] ++ vs).size) undef).getD (t + 1) undef = vs[t]'(by omega) := by
            have : t < vs.size := by omega
            simp [Array.getElem?_append, this]
          rw [h3]
          simpa using hv t _ _ h1 h2
        · have : (D.one (.c (.lit (.func (.yield l) #[] #[]))) :: caps).getD (t + 1) .any = .any := by simp [List.getD, List.getElem?_eq_none (Nat.le_of_not_lt ht)]
          rw [this]; exact .any _
    · simp [initE]; omega
  refine wpIn_mono (h w.heap.size l J hJ ⟨hlw, hY⟩ K _ w hflat h0) ?_
  rintro e a' w' ⟨s', g', K', hq, hf', hj', _⟩
  have key : ∀ (Ds : List Nat) (w' : World), Ds.Nodup → J g' w' K' → (∀ D ∈ Ds, w.heap.size ≤ D ∧ w'.heap[D]? = some (.deferred (some []))) → (g' = some xs.length ∨ g' = none) →
      LeavesInM Fence.wide 0 P fn a'.tmps (fun e W' => (∃ v, e = .returned v) ∧ ∃ L, J (some xs.length) W' L ∨ J none W' L) (Ds.map (fun D => { target := .collected D, args := #[] })) .returning w' := by
    intro Ds
    induction Ds with
    | nil =>
      intro w' _ hj _ hg
      refine ⟨.tuple #[], ?_, ⟨_, rfl⟩, K', ?_⟩
      · rw [results_eq]
        have : fn.results = #[] := by rw [← Array.toList_eq_nil_iff]; exact hres
        rw [this]; simp
      · rcases hg with rfl | rfl
        · exact .inl hj
        · exact .inr hj
    | cons D Ds ih =>
      intro w' hnd hj hD hg
      obtain ⟨h1, h2⟩ := List.nodup_cons.1 hnd
      obtain ⟨h3, h4⟩ := hD D (by simp)
      refine ⟨by simp, .inl ⟨D, _, rfl, run_takeDeferred h4, ih _ h2 (hJ _ _ _ K' K' hj (Hush.putObj _ h3 h4 (by simp)) fun _ _ h => .inl h) (fun D' hD' => ?_) hg⟩⟩
      obtain ⟨g1, g2⟩ := hD D' (by simp [hD'])
      exact ⟨g1, (World.putObj_heap_other (show D' ≠ D from fun e => h1 (by rw [← e]; exact hD'))).trans g2⟩
  obtain ⟨Ds, hnd, hds, hD⟩ := hf'.defers
  have hpost : iterQ xs.length e s' g' → e = .normal ∨ e = .ret → LeavesInM Fence.wide 0 P fn a'.tmps (fun e W' => (∃ v, e = .returned v) ∧ ∃ L, J (some xs.length) W' L ∨ J none W' L) a'.defers .returning w' := fun hq he => by
    rw [hds]
    refine key Ds w' hnd hj' hD ?_
    rcases he with rfl | rfl <;> exact hq
  cases e with
  | normal => exact hpost hq (.inl rfl)
  | ret => exact hpost hq (.inr rfl)
  | _ => exact hq.elim

@[go_sem] theorem thenI_normal {next : DS → Option Nat → Prop} {s : DS} {g : Option Nat} : thenI next Q .normal s g = next s g := rfl
@[go_sem] theorem thenI_ret {next : DS → Option Nat → Prop} {s : DS} {g : Option Nat} : thenI next Q .ret s g = Q .ret s g := rfl
@[go_sem] theorem thenI_exit {next : DS → Option Nat → Prop} {s : DS} {g : Option Nat} {i : Nat} : thenI next Q (.exit i) s g = Q (.exit i) s g := rfl
@[go_sem] theorem inBlockI_normal {s : DS} {g : Option Nat} {i : Nat} : inBlockI i Q .normal s g = Q .normal s g := rfl
@[go_sem] theorem inBlockI_ret {s : DS} {g : Option Nat} {i : Nat} : inBlockI i Q .ret s g = Q .ret s g := rfl
@[go_sem] theorem inBlockI_exit {s : DS} {g : Option Nat} {i j : Nat} : inBlockI i Q (.exit j) s g = if j = i then Q .normal s g else Q (.exit j) s g := rfl
attribute [go_sem] DS.flat DS.bare noName

end
end
end Go.Dl

/- The logic of data: a loop over a function in the text of an iterator. -/
namespace Go.Dl
open Go.RowKit
noncomputable section

section
variable {P : Program} {m n : Nat} {J : Option Nat → World → KSet → Prop} {s : DS} {Q : Exit → DS → Option Nat → Prop}

theorem Hush.ext {q : Nat} {w w' : World} (c : Hush q w w') {K K' : KSet} (hk : KOk w K) (hK : ∀ b o, K b o → K' b o) : Ext w K w' K' := fun b o hb => by
  obtain ⟨arr, e, m, h⟩ := cells_of_cell (hk b o hb)
  exact ⟨hK b o hb, World.cell?_of_block (w := w) (a := ⟨b, o, none⟩) (c.cells b arr e m h)⟩

end
end
end Go.Dl

/- The logic of data: memory given up for good, for simp; steps of an iterator's text behind which less is known. -/
namespace Go.Dl
open Go.RowKit
noncomputable section

theorem sub_frz {s : DS} (n sz : Nat) (cs : List (List C)) (js : Rows) (hpos : 0 < sz) (hn : s.bx n = some (cs.map (List.map T.c) ++ js)) (hz : ∀ r ∈ cs, r.length = sz) : s.Sub (s.frz n sz cs) :=
  fun _ _ _ ⟨_, hE⟩ => hE.frz hpos hn hz

theorem sub_frz1 {s : DS} (n : Nat) (cs : List C) (hpos : 0 < cs.length) (hn : s.bx n = some [cs.map T.c]) : s.Sub (s.frz n cs.length [cs]) :=
  sub_frz n cs.length [cs] [] hpos (by simpa using hn) (by simp)

theorem dw_frz1 {P : Program} {c : Code} {s : DS} {Q : Exit → DS → Prop} (n : Nat) (cs : List C) (hpos : 0 < cs.length) (hn : s.bx n = some [cs.map T.c]) (h : DW P c (s.frz n cs.length [cs]) Q) : DW P c s Q :=
  dw_weaken (sub_frz1 n cs hpos hn) h

theorem frz_sl (s : DS) (n sz : Nat) (cs : List (List C)) (t : Nat) : (s.frz n sz cs).sl t = (s.sl t).frz n sz cs := rfl
theorem frz_bx (s : DS) (n sz : Nat) (cs : List (List C)) (k : Nat) : (s.frz n sz cs).bx k = if k = n then none else (s.bx k).map (List.map (T.frzAll n sz cs)) := rfl

section
variable {P : Program} {m n : Nat} {J : Option Nat → World → KSet → Prop} {s : DS} {g ro : Option Nat} {Q : Exit → DS → Option Nat → Prop}

end

theorem sub_nilAt {s : DS} (m sz : Nat) (hm : s.bx m = some [[.c (.lit (.slice none 0 0))]]) : s.Sub (s.setBx m (some [[.ex sz []]])) :=
  sub_box m hm rfl fun i r r' h1 h2 => by
    cases i with
    | succ i => simp at h1
    | zero =>
      simp at h1 h2
      subst h1; subst h2
      refine ⟨rfl, fun w E j t t' v h1 h2 hv => ?_⟩
      cases j with
      | succ j => simp at h1
      | zero =>
        simp at h1 h2
        subst h1; subst h2
        cases hv with | c c v hv => cases hv with | lit v h => exact .ex sz [] _ (.nil sz) ⟨none, 0, rfl⟩

theorem dw_rng0 {P : Program} {s : DS} {Q : Exit → DS → Prop} {c : Code} {α : Type} (xs : List α) (S : Nat → DS) (hmax : xs.length ≤ maxLen) (h0 : s.Sub (S 0))
    (body : ∀ k x, xs[k]? = some x → k < xs.length → x ∈ xs → xs.take (k + 1) = xs.take k ++ [x] → decide ((k : Int) < (xs.length : Int)) = true → IntKind.i64.wrap ((k : Int) + 1) = ((k + 1 : Nat) : Int) →
      DW P c (S k) (thenD (fun s' => s'.Sub (S (k + 1))) Q))
    (done : decide ((xs.length : Int) < (xs.length : Int)) = false → DW P c (S xs.length) (thenD (fun _ => False) Q)) : DW P (.loop c) s Q :=
  dw_rng xs (fun k (_ : Unit) => S k) (fun _ _ => True) () hmax h0 trivial (fun k x _ h1 h2 h3 h4 h5 h6 _ => (body k x h1 h2 h3 h4 h5 h6).mono fun e s' h => by
    cases e with
    | normal => exact ⟨(), trivial, h⟩
    | _ => exact h) (fun _ h _ => done h)

theorem dw_rngI {P : Program} {s : DS} {Q : Exit → DS → Prop} {c : Code} {α : Type} (xs : List α) (S : Nat → DS) (Inv : Nat → Prop) (hmax : xs.length ≤ maxLen) (h0 : s.Sub (S 0)) (hi0 : Inv 0)
    (body : ∀ k x, xs[k]? = some x → k < xs.length → x ∈ xs → xs.take (k + 1) = xs.take k ++ [x] → decide ((k : Int) < (xs.length : Int)) = true → IntKind.i64.wrap ((k : Int) + 1) = ((k + 1 : Nat) : Int) → Inv k →
      DW P c (S k) (thenD (fun s' => Inv (k + 1) ∧ s'.Sub (S (k + 1))) Q))
    (done : decide ((xs.length : Int) < (xs.length : Int)) = false → Inv xs.length → DW P c (S xs.length) (thenD (fun _ => False) Q)) : DW P (.loop c) s Q :=
  dw_rng xs (fun k (_ : Unit) => S k) (fun k _ => Inv k) () hmax h0 hi0 (fun k x _ h1 h2 h3 h4 h5 h6 h7 => (body k x h1 h2 h3 h4 h5 h6 h7).mono fun e s' h => by
    cases e with
    | normal => exact ⟨(), h⟩
    | _ => exact h) (fun _ h h7 => done h h7)

/-! ### Rounds, for simp -/
theorem midM_noMid (k : Nat) : midM noMid k = False := eq_false (not_noMid k)
theorem callMemM_noMid (bx : Mem) (ns : List Nat) (k : Nat) : callMemM noMid bx ns k = if NB ≤ k ∧ k - NB ∈ ns then (bx (k - NB)).map (Rows.tr (shfM noMid ns)) else none := by
  unfold callMemM; simp only [midM_noMid, if_false]
theorem callMemAftM_noMid (bx H' : Mem) (ns : List Nat) (m : Option Nat) (k : Nat) : callMemAftM noMid bx H' ns m k =
    if m = some k then (H' 0).map (Rows.tr (usfM noMid ns m)) else if k ∈ ns then (H' (k + NB)).map (Rows.tr (usfM noMid ns m)) else (bx k).map (Rows.tr (aftM noMid ns m)) := by
  unfold callMemAftM; simp only [midM_noMid, if_false]
theorem nb_ne (a k : Nat) (h : k < 100000) : (a + NB = k) = False := eq_false (by have := NB_big; omega)
theorem nb_ne' (a k : Nat) (h : k < 100000) : (k = a + NB) = False := eq_false (by have := NB_big; omega)
theorem nb_le (a : Nat) : (NB ≤ a + NB) = True := eq_true (Nat.le_add_left _ _)
theorem nb_nle (k : Nat) (h : k < 100000) : (NB ≤ k) = False := eq_false (by have := NB_big; omega)
theorem nb_sub (a : Nat) : a + NB - NB = a := Nat.add_sub_cancel a NB
theorem nb_inj (a b : Nat) : (a + NB = b + NB) = (a = b) := by simp
theorem nb_zero (a : Nat) : (a + NB = 0) = False := eq_false (by have := NB_big; omega)
theorem roundQ_normal (ms : Nat → Bool) (ns : List Nat) (s : DS) (N : DS → Prop) (Q : Exit → DS → Prop) (t : DS) : roundQ ms ns s N Q .normal t = N (s.aftCallM ms ns none (.tup []) t.bx) := rfl
theorem roundQ_ret (ms : Nat → Bool) (ns : List Nat) (s : DS) (N : DS → Prop) (Q : Exit → DS → Prop) (t : DS) : roundQ ms ns s N Q .ret t = Q .ret (s.aftCallM ms ns none (.tup []) t.bx) := rfl
theorem roundQ_exit (ms : Nat → Bool) (ns : List Nat) (s : DS) (N : DS → Prop) (Q : Exit → DS → Prop) (t : DS) (i : Nat) : roundQ ms ns s N Q (.exit i) t = Q (.exit i) (s.aftCallM ms ns none (.tup []) t.bx) := rfl
theorem round_sl (ms : Nat → Bool) (s : DS) (ns : List Nat) (t : Nat) : (s.round0 ms ns).sl t = (s.sl t).tr (shfM ms ns) := rfl
theorem round_bx (ms : Nat → Bool) (s : DS) (ns : List Nat) (t : Nat) : (s.round0 ms ns).bx t = callMemM ms s.bx ns t := rfl
def oneMid : Nat → Bool := fun k => k == 1000
theorem midM_oneMid (k : Nat) : midM oneMid k = (k = 1000) := by
  have := NB_big
  apply propext
  simp only [midM, oneMid, beq_iff_eq]
  constructor
  · exact fun h => h.2.2
  · rintro rfl; exact ⟨Nat.le_refl _, by omega, rfl⟩
theorem callMemM_oneMid (bx : Mem) (ns : List Nat) (k : Nat) : callMemM oneMid bx ns k = if NB ≤ k ∧ k - NB ∈ ns then (bx (k - NB)).map (Rows.tr (shfM oneMid ns)) else if k = 1000 then (bx k).map (Rows.tr (shfM oneMid ns)) else none := by
  unfold callMemM; simp only [midM_oneMid]
theorem callMemAftM_oneMid (bx H' : Mem) (ns : List Nat) (m : Option Nat) (k : Nat) : callMemAftM oneMid bx H' ns m k =
    if m = some k then (H' 0).map (Rows.tr (usfM oneMid ns m)) else if k ∈ ns then (H' (k + NB)).map (Rows.tr (usfM oneMid ns m)) else if k = 1000 then (H' k).map (Rows.tr (usfM oneMid ns m)) else (bx k).map (Rows.tr (aftM oneMid ns m)) := by
  unfold callMemAftM; simp only [midM_oneMid]
attribute [go_sem] midM_oneMid callMemM_oneMid callMemAftM_oneMid
theorem puts_nil (s : DS) : s.puts [] = s := rfl
theorem puts_cons (s : DS) (u : Nat) (d : D) (l : List (Nat × D)) : s.puts ((u, d) :: l) = (s.put (some u) d).puts l := rfl
theorem round_puts (ms : Nat → Bool) (s : DS) (ns ps : List Nat) (ds : List D) : s.round ms ns ps ds = (s.round0 ms ns).puts (ps.zip (ds.map (D.tr noName))) := rfl
attribute [go_sem] midM_noMid callMemM_noMid callMemAftM_noMid nb_ne nb_ne' nb_le nb_nle nb_sub nb_inj nb_zero roundQ_normal roundQ_ret roundQ_exit round_sl round_bx round_puts puts_nil puts_cons Nat.add_eq_zero_iff List.mem_cons

theorem dw_rf {P : Program} {s : DS} {Q : Exit → DS → Prop} {g : Operand} {ps : List Tmp} {assign body : Code} {gf : FuncId} {caps : List T} {xs : List (List D)} {σ : Type} (N : Nat) (ms : Nat → Bool) (ns : List Nat) (S : Nat → σ → DS) (Inv : Nat → σ → Prop) (st0 : σ) (hi0 : Inv 0 st0) (hsn : s.n = N) (hpl : s.pl = true)
    (hd : (decide (N ≤ 1000) && (ps.all fun p => decide (p < N)) && ns.all fun k => decide (k < 1000)) = true) (hg : (s.ev g).asFn = some (gf, caps)) (hseq : SeqD P gf (caps.map fun t => .one (.c t.cl)) xs) (h0 : s.Sub (S 0 st0)) (hn : ∀ k st, (S k st).n = N) (hxs : ∀ ds ∈ xs, ds.length = ps.length)
    (hround : ∀ k ds st, xs[k]? = some ds → Inv k st → DW P assign ((S k st).round ms ns ps ds) (thenD (fun s1 => DW P body s1 (roundQ ms ns (S k st) (fun s' => ∃ st', Inv (k + 1) st' ∧ s'.Sub (S (k + 1) st')) Q)) (fun _ _ => False)))
    (hdone : ∀ st, Inv xs.length st → Q .normal (S xs.length st)) : DW P (.rangeFunc g ps.toArray assign body) s Q := by
  simp only [Bool.and_eq_true, decide_eq_true_eq, List.all_eq_true] at hd
  subst hsn
  exact dw_rangeFunc ms ns S Inv st0 hi0 hpl hg hseq h0 hn hd.1.1 (by simpa using hd.1.2) (by simpa using hxs) ⟨fun n hn h => by have := hd.2 n hn; have := h.1; omega, fun x h => by cases h⟩ (by simpa using hround) hdone

theorem dw_rfS {P : Program} {s : DS} {Q : Exit → DS → Prop} {g : Operand} {ps : List Tmp} {assign body : Code} {gf : FuncId} {caps : List T} {xs : List (List D)} {σ : Type} (N : Nat) (ms : Nat → Bool) (ns : List Nat) (S : Nat → σ → DS) (Inv : Nat → σ → Prop) (st0 : σ) (hi0 : Inv 0 st0) (hsn : s.n = N) (hpl : s.pl = true)
    (hd : (decide (N ≤ 1000) && (ps.all fun p => decide (p < N)) && ns.all fun k => decide (k < 1000)) = true) (hg : (s.ev g).asFn = some (gf, caps)) (hseq : SeqD P gf (caps.map fun t => .one (.c t.cl)) xs) (h0 : s.Sub (S 0 st0)) (hn : ∀ k st, (S k st).n = N) (hxs : ∀ ds ∈ xs, ds.length = ps.length)
    (hround : ∀ k ds st, xs[k]? = some ds → Inv k st → DW P assign ((S k st).round ms ns ps ds) (thenD (fun s1 => DW P body s1 (fun e t => ∃ t2, t.Sub t2 ∧ roundQ ms ns (S k st) (fun s' => ∃ st', Inv (k + 1) st' ∧ s'.Sub (S (k + 1) st')) Q e t2)) (fun _ _ => False)))
    (hdone : ∀ st, Inv xs.length st → Q .normal (S xs.length st)) : DW P (.rangeFunc g ps.toArray assign body) s Q := by
  refine dw_rf N ms ns S Inv st0 hi0 hsn hpl hd hg hseq h0 hn hxs (fun k ds st h1 h2 => (hround k ds st h1 h2).mono fun e t ht => ?_) hdone
  cases e with
  | normal => exact dw_post ht
  | _ => exact ht

attribute [go_sem] frz_sl frz_bx D.frz D.frzAll T.frz T.frzAll frzBx fnTT
attribute [go_sem] Option.pure_def Option.bind_eq_bind
attribute [go_sem] List.zip_cons_cons List.zip_nil_left
end
end Go.Dl

/- The logic of data: the library's sort of numbers, in memory handed over. -/
namespace Go.Dl
open Go.RowKit Go.Sort
noncomputable section

def iRows (xs : List Int) : Rows := xs.map fun x => [T.c (.lit (.int .i64 x))]

theorem iRows_get {xs : List Int} {i : Nat} {x : Int} (h : xs[i]? = some x) : (iRows xs)[i]? = some [T.c (.lit (.int .i64 x))] := by simp [iRows, h]

theorem WI.rel {X : Origin} {w : World} {E : Env} {H : Mem} (h : WI X w E H) (hm : X.mrk ≤ X.w.heap.size) (hB : NB ≤ X.B) : RelE X { n := 0, sl := fun _ => .any, bx := H, pl := false } E { tmps := #[], defers := [] } w :=
  ⟨h, fun _ => .any _, rfl, DefOK.nil _ _ hm, ⟨Nat.zero_le _, hB⟩, fun h => by cases h⟩

theorem sort_E {P : Program} {f : FuncId} (hp : Program.plainF P f = true)
    (hs : ∀ (blk off cap : Nat) (zs : List Int) (w : World), Holds (Value.int .i64) w blk off zs.toArray → blk < w.heap.size → zs.length < 4611686018427387904 →
      Calls P f #[.slice (some ⟨blk, off, none⟩) zs.length cap] w fun e w' => e = .returned (.tuple #[]) ∧ ∃ n os, w' = grow (putRow (Value.int .i64) (Sort.ahead w n) blk off (zs.mergeSort fun x y => decide (x ≤ y)).toArray) os)
    (hnone : ∀ (p : Option Addr) (cap : Nat) (w : World), Calls P f #[.slice p 0 cap] w fun e w' => e = .returned (.tuple #[]) ∧ w' = w)
    (q cap : Nat) (H : Mem) (xs : List Int) (js : Rows) (hq : H q = some (iRows xs ++ js)) (hjs : RowsSz 1 js) (hl : xs.length < 4611686018427387904) :
    ECalls P f [.one (.ba q 1 0 xs.length cap)] H (fun r H' => r = .tup [] ∧ H' = fun k => if k = q then some (iRows (xs.mergeSort fun x y => decide (x ≤ y)) ++ js) else H k) := by
  refine ⟨hp, fun w E F vs hwi hsz hv => ?_⟩
  obtain ⟨v, rfl⟩ : ∃ v, vs = #[v] := by
    have : vs.size = 1 := hsz
    refine ⟨vs[0], ?_⟩
    apply Array.ext
    · simp [this]
    · intro i h1 h2
      have h2' : i < 1 := h2
      obtain rfl : i = 0 := by omega
      rfl
  have hv0 := hv 0 _ v rfl rfl
  by_cases h0 : xs = []
  · subst h0
    have hvs : ∃ p c, v = .slice p 0 c := by
      cases hv0 with | one t v hv0 => cases hv0 with
        | ba n sz i len cap h hm => exact ⟨_, _, rfl⟩
        | bz n sz i A => exact ⟨_, _, rfl⟩
    obtain ⟨p, c, rfl⟩ := hvs
    refine (hnone p c w).mono ?_
    rintro e w' ⟨rfl, rfl⟩
    refine ⟨_, E, .tup [], _, rfl, ⟨rfl, rfl⟩, ?_, .tup [] #[] rfl (fun j d v h1 _ => by simp at h1)⟩
    have : (fun k => if k = q then some (iRows ([].mergeSort fun x y => decide (x ≤ y)) ++ js) else H k) = H := by
      funext k; split
      · rename_i hk; subst hk; simpa using hq.symm
      · rfl
    rw [this]; exact hwi
  · have hvs : ∃ c, v = .slice (some ⟨E.ρ q, 0, none⟩) xs.length c := by
      have hpos : 0 < xs.length := List.length_pos_iff.2 h0
      generalize hle : xs.length = len at hv0 hpos
      cases hv0 with | one t v hv0 => cases hv0 with
        | ba n sz i len cap h hm => exact ⟨cap, by simp⟩
        | bz n sz i A => omega
    obtain ⟨c, rfl⟩ := hvs
    have hne : iRows xs ++ js ≠ [] := by simp [iRows, h0]
    obtain ⟨g1, g2, g3⟩ := hwi.boxes q _ hq hne
    obtain ⟨arr, e, k1, k2⟩ := g2.rowsIs
    obtain ⟨sz, k3⟩ := k2.lst
    have hsz1 : sz = 1 := by
      have hm : ∃ r ∈ iRows xs, r.length = 1 := by
        cases xs with
        | nil => exact absurd rfl h0
        | cons x xs => exact ⟨_, List.mem_cons_self, rfl⟩
      obtain ⟨r, hr, hr1⟩ := hm
      rw [← k3.row r (List.mem_append_left _ hr)]; exact hr1
    subst hsz1
    have hlen : arr.size = xs.length + js.length := by
      have := k3.len
      simp [iRows] at this; exact this
    have harr : ∀ j x, xs[j]? = some x → arr[j]? = some (Value.int .i64 x) := fun j x hj => by
      have hjl : j < xs.length := (List.getElem?_eq_some_iff.1 hj).1
      have hja : j < arr.size := by omega
      have := k3.is j 0 [T.c (.lit (.int .i64 x))] _ arr[j] (by rw [List.getElem?_append_left (by simpa [iRows] using hjl)]; exact iRows_get hj) rfl (by simp [hja])
      rw [Array.getElem?_eq_getElem hja]
      have hd : VD w E (.one (.c (.lit (.int .i64 x)))) arr[j] := .one _ _ this
      rw [hd.lit]
    have hblt : E.ρ q < w.heap.size := (Array.getElem?_eq_some_iff.1 k1).1
    have hH : Holds (Value.int .i64) w (E.ρ q) 0 xs.toArray := fun j hj => by
      have hj' : j < xs.length := by simpa using hj
      refine ⟨?_, by simp [World.frozen?, k1]⟩
      have := harr j xs[j] (List.getElem?_eq_getElem hj')
      simp [World.cell?, k1, this, hj']
    refine (hs (E.ρ q) 0 c xs w hH hblt hl).mono ?_
    rintro en w' ⟨rfl, n, os, rfl⟩
    obtain ⟨ts, hts⟩ : ∃ ts, ts = xs.mergeSort fun x y => decide (x ≤ y) := ⟨_, rfl⟩
    have htl : ts.length = xs.length := by rw [hts]; exact List.length_mergeSort _
    rw [← hts]
    obtain ⟨arr', harr'⟩ : ∃ arr', arr' = putCells (Value.int .i64) 0 ts.toArray arr := ⟨_, rfl⟩
    have hsz' : arr'.size = arr.size := by rw [harr']; simp [putCells]
    have hrow : RowSet w (putRow (Value.int .i64) (Sort.ahead w n) (E.ρ q) 0 ts.toArray) (E.ρ q) e arr arr' := by
      refine ⟨k1, ?_, hsz', by simp [putRow, mapBlock, Sort.ahead], fun k hk => ?_, rfl, rfl, rfl⟩
      · simp [putRow, mapBlock, Sort.ahead, Array.getElem?_modify, k1, onCells, harr']
      · simp [putRow, mapBlock, Sort.ahead, Array.getElem?_modify, Ne.symm hk]
    have hv' : RowsIs w E arr' (iRows ts ++ js) := by
      refine ⟨1, fun r hr => ?_, by rw [hsz', hlen]; simp [iRows, htl], fun i j r t v h1 h2 h3 => ?_⟩
      · rcases List.mem_append.1 hr with hr | hr
        · obtain ⟨x, _, rfl⟩ := List.mem_map.1 hr; rfl
        · exact hjs r hr
      · by_cases hi : i < ts.length
        · rw [List.getElem?_append_left (by simpa [iRows] using hi), iRows_get (List.getElem?_eq_getElem hi)] at h1
          injection h1 with h1; subst h1
          cases j with
          | succ j => simp at h2
          | zero =>
            simp at h2; subst h2
            have hia : i < arr.size := by omega
            simp [harr', putCells, hi, hia] at h3
            subst h3
            exact .c _ _ (.lit _ rfl)
        · have h1' := h1
          rw [List.getElem?_append_right (by simp [iRows]; omega)] at h1
          have hr1 : r.length = 1 := hjs r (List.mem_of_getElem? h1)
          have hj0 : j = 0 := by have := (List.getElem?_eq_some_iff.1 h2).1; omega
          subst hj0
          refine k3.is i 0 r t v ?_ h2 ?_
          · rw [List.getElem?_append_right (by simp [iRows]; omega)]
            simpa [iRows, htl] using h1
          · simp [harr', putCells, hi] at h3 ⊢
            exact h3
    have hrel := (hwi.rel (Nat.le_refl _) (Nat.le_refl _)).setBx hq hne hrow hv'
    have hush : Hush w.heap.size (putRow (Value.int .i64) (Sort.ahead w n) (E.ρ q) 0 ts.toArray) (grow (putRow (Value.int .i64) (Sort.ahead w n) (E.ρ q) 0 ts.toArray) os) := by
      refine ⟨rfl, rfl, rfl, by simp [grow], fun b hb => ?_, fun b a' e' m hb => ?_⟩
      · exact heap_grow_old _ _ (by rw [hrow.heap]; exact hb)
      · exact heap_grow_old _ _ (Array.getElem?_eq_some_iff.1 hb).1
    have hfin := hrel.hush (a' := { tmps := #[], defers := [] }) hush rfl (DefOK.nil _ _ (Nat.le_refl _))
    exact ⟨_, E, .tup [], _, rfl, ⟨rfl, rfl⟩, hfin.wi, .tup [] #[] rfl (fun j d v h1 _ => by simp at h1)⟩
end
end Go.Dl

/- The logic of data: rows of plain cells. -/
namespace Go.Dl
open Go.RowKit
noncomputable section

def cr (xs : List (List C)) : Rows := xs.map (List.map T.c)
theorem cr_tr (r : Ren) (xs : List (List C)) : Rows.tr r (cr xs) = cr xs := Rows.tr_c r xs
theorem cr_len (xs : List (List C)) : (cr xs).length = xs.length := by simp [cr]
attribute [go_sem] cr_tr

theorem srcSl {bx : Mem} {sz : Nat} {d : D} {ys : List (List C)} (hd : d = .one (.c (.sl sz ys))) : Src bx sz d (cr ys) := by
  subst hd; exact .sl ys

end
end Go.Dl

/- The logic of data: a region whose order is drawn, where two operations may come up: both ways are gone. -/
namespace Go.Dl
open Go.RowKit
noncomputable section

inductive PT where
  | leaf
  | run (l : List Nat) (t : PT)
  | two (i : Nat) (t : PT) (j : Nat) (u : PT)

def PT.len : PT → Nat
  | .leaf => 0
  | .run l t => l.length + t.len
  | .two _ t _ _ => 1 + t.len

def pickM (ops : List Oper) (m : Mode) : List Nat → List (Mode × Oper)
  | [] => []
  | i :: l => match ops[i]? with
    | some o => (m, o) :: pickM ops m l
    | none => []

def pickH (ops : List Oper) (hd : List Nat) : List Nat → List (Mode × Oper)
  | [] => []
  | i :: l => match ops[i]? with
    | some o => (if i ∈ hd then .hand else .step, o) :: pickH ops hd l
    | none => []

def PT.wk (P : Program) (ops : List Oper) (hd : List Nat) (ds : List (Option Nat)) : PT → DS → (DS → Prop) → Prop
  | .leaf, s, K => K s
  | .run l t, s, K => Go.Dl.wk P ds (pickH ops hd l) s fun s' => t.wk P ops hd ds s' K
  | .two i t j u, s, K => (Go.Dl.wk P ds (pickH ops hd [i]) s fun s' => t.wk P ops hd ds s' K) ∧ Go.Dl.wk P ds (pickH ops hd [j]) s fun s' => u.wk P ops hd ds s' K

section
variable {P : Program}

theorem pickM_nil (ops : List Oper) (m : Mode) : pickM ops m [] = [] := rfl
theorem pickM_cons (ops : List Oper) (m : Mode) (i : Nat) (l : List Nat) : pickM ops m (i :: l) = match ops[i]? with | some o => (m, o) :: pickM ops m l | none => [] := rfl
theorem pickH_nil (ops : List Oper) (hd : List Nat) : pickH ops hd [] = [] := rfl
theorem pickH_cons (ops : List Oper) (hd : List Nat) (i : Nat) (l : List Nat) : pickH ops hd (i :: l) = match ops[i]? with | some o => (if i ∈ hd then .hand else .step, o) :: pickH ops hd l | none => [] := rfl
theorem ptwk_leaf (ops : List Oper) (hd : List Nat) (ds : List (Option Nat)) (s : DS) (K : DS → Prop) : PT.leaf.wk P ops hd ds s K = K s := rfl
theorem ptwk_run (ops : List Oper) (hd : List Nat) (ds : List (Option Nat)) (l : List Nat) (t : PT) (s : DS) (K : DS → Prop) : (PT.run l t).wk P ops hd ds s K = Go.Dl.wk P ds (pickH ops hd l) s fun s' => t.wk P ops hd ds s' K := rfl
theorem ptwk_two (ops : List Oper) (hd : List Nat) (ds : List (Option Nat)) (i j : Nat) (t u : PT) (s : DS) (K : DS → Prop) : (PT.two i t j u).wk P ops hd ds s K = ((Go.Dl.wk P ds (pickH ops hd [i]) s fun s' => t.wk P ops hd ds s' K) ∧ Go.Dl.wk P ds (pickH ops hd [j]) s fun s' => u.wk P ops hd ds s' K) := rfl
attribute [go_sem] pickM_nil pickM_cons pickH_nil pickH_cons ptwk_leaf ptwk_run ptwk_two
end
end
end Go.Dl

/- The logic of data: behind a loop. -/
namespace Go.Dl
open Go.RowKit
noncomputable section
theorem dw_after {P : Program} {α : Type} {id : Nat} {c rest : Code} {s : DS} {Q Q2 : Exit → DS → Prop} (S : α → DS) (F : α → Prop) (h1 : DW P c s (fun e s' => e = .exit id ∧ ∃ y, F y ∧ s'.Sub (S y))) (h2 : ∀ y, F y → DW P rest (S y) Q) :
    DW P c s (inBlockD id (thenD (fun s' => DW P rest s' Q) Q2)) :=
  h1.mono fun e s' ⟨he, y, hF, hs⟩ => by
    subst he
    simp only [inBlockD, if_true, thenD]
    exact dw_weaken hs (h2 y hF)
theorem dw_afterN {P : Program} {α : Type} {c rest : Code} {s : DS} {Q Q2 : Exit → DS → Prop} (S : α → DS) (F : α → Prop) (h1 : DW P c s (fun e s' => e = .normal ∧ ∃ y, F y ∧ s'.Sub (S y))) (h2 : ∀ y, F y → DW P rest (S y) Q) :
    DW P c s (thenD (fun s' => DW P rest s' Q) Q2) :=
  h1.mono fun e s' ⟨he, y, hF, hs⟩ => by
    subst he
    simp only [thenD]
    exact dw_weaken hs (h2 y hF)
theorem nb_1000 : (1000 < NB) = True := eq_true (by have := NB_big; omega)
attribute [go_sem] nb_1000

end
end Go.Dl

/- The logic of data: a made slice of zeros. -/
namespace Go.Dl
open Go.RowKit
noncomputable section
section
variable {P : Program}

end
theorem nb_lt (a : Nat) : (a + NB < NB) = False := eq_false (by omega)
attribute [go_sem] nb_lt
end
end Go.Dl

/- The reading of arguments: what the form reads as data is read by the logic of data, too. -/
namespace Go.Dl
open Go.RowKit Go.ChangeShapes Go.WideShapes Go.ChangeAt

inductive Sh where
  | int (k : IntKind)
  | bool
  | str
  | sl (sz : Nat) (e : Sh)
  | nil
  | cons (f r : Sh)

def Val : Sh → Type
  | .int _ => Int
  | .bool => Bool
  | .str => ByteArray
  | .sl _ e => List (Val e)
  | .nil => Unit
  | .cons f r => Val f × Val r

def Sh.size : Sh → Nat
  | .nil => 0
  | .cons f r => f.size + r.size
  | _ => 1

def Sh.enc : (s : Sh) → Val s → List C
  | .int k, n => [.lit (.int k n)]
  | .bool, b => [.lit (.bool b)]
  | .str, s => [.lit (.string s)]
  | .sl sz e, l => [.sl sz (List.map (Sh.enc e) l)]
  | .nil, _ => []
  | .cons f r, x => Sh.enc f x.1 ++ Sh.enc r x.2

def Sh.ok : (s : Sh) → Val s → Prop
  | .int k, n => (Lit.int k n).wf = true
  | .bool, _ => True
  | .str, s => s.size ≤ maxLen
  | .sl _ e, l => (show List (Val e) from l).length ≤ maxLen ∧ ∀ x ∈ (show List (Val e) from l), Sh.ok e x
  | .nil, _ => True
  | .cons f r, x => Sh.ok f x.1 ∧ Sh.ok r x.2

theorem Sh.enc_len : (s : Sh) → (x : Val s) → (s.enc x).length = s.size
  | .int k, n => rfl
  | .bool, b => rfl
  | .str, s => rfl
  | .sl sz e, l => rfl
  | .nil, _ => rfl
  | .cons f r, x => by simp only [Sh.enc, List.length_append, Sh.enc_len f, Sh.enc_len r, Sh.size]

def Program.has (P : Program) : Sh → TypeId ⊕ (List Field × Nat) → Bool
  | .int k, .inl t => match P.underlying t with | some (.int k') => decide (k' = k) | _ => false
  | .bool, .inl t => match P.underlying t with | some .bool => true | _ => false
  | .str, .inl t => match P.underlying t with | some .string => true | _ => false
  | .sl sz e, .inl t => match P.underlying t with | some (.slice el) => P.cellsOf el == sz && decide (0 < sz) && e.size == sz && Program.has P e (.inl el) | _ => false
  | .cons f r, .inl t => match P.underlying t with
    | some (.struct fs) => match fs.toList with
      | fd :: rest => P.cellsOf t == f.size + r.size && fd.offset == 0 && P.cellsOf fd.type == f.size && Program.has P f (.inl fd.type) && Program.has P r (.inr (rest, f.size))
      | [] => false
    | _ => false
  | .nil, .inr (fs, _) => fs.isEmpty
  | .cons f r, .inr (fs, o) => match fs with
    | fd :: rest => fd.offset == o && P.cellsOf fd.type == f.size && Program.has P f (.inl fd.type) && Program.has P r (.inr (rest, o + f.size))
    | [] => false
  | _, _ => false

def Kall (w : World) : KSet := fun b o => (w.cell? ⟨b, o, none⟩).isSome = true

def CellsC (w : World) (cs : List C) (vs : List Value) : Prop := vs.length = cs.length ∧ ∀ (j : Nat) c v, cs[j]? = some c → vs[j]? = some v → VC w (Kall w) c v

theorem CellsC.app {w : World} {a b : List C} {u v : List Value} (h : CellsC w a u) (k : CellsC w b v) : CellsC w (a ++ b) (u ++ v) := by
  refine ⟨by simp [h.1, k.1], fun j c x h1 h2 => ?_⟩
  rw [List.getElem?_append] at h1 h2
  rw [h.1] at h2
  split at h1
  · rename_i hj; rw [if_pos hj] at h2; exact h.2 j c x h1 h2
  · rename_i hj; rw [if_neg hj] at h2; exact k.2 _ c x h1 h2

theorem CellsC.one {w : World} {c : C} {v : Value} (h : VC w (Kall w) c v) : CellsC w [c] [v] :=
  ⟨rfl, fun j c' v' h1 h2 => by
    cases j with
    | zero => simp at h1 h2; subst h1; subst h2; exact h
    | succ j => simp at h1⟩

section
variable {P : Program} {H : Type} {enc : TypeId × Value → H} {w : World} {sp : Nat → Bool} {held : Bool}

theorem cells?_get {base : Nat} {a : Addr} {n : Nat} {vs : List Value} (h : w.cells? base a n = some vs) : vs.length = n ∧ ∀ j, j < n → w.cell? (a.add j) = vs[j]? := by
  unfold World.cells? at h
  split at h
  · have hl : vs.length = n := by
      have := mapM_some_length h
      simpa using this
    refine ⟨hl, fun j hj => ?_⟩
    have := mapM_some_get h j j (by simp [hj])
    simpa using this
  · cases h

end
end Go.Dl

/- The frame of a law: from its contract to the statement's form. -/
namespace Go.Dl
open Go.RowKit Go.ChangeShapes Go.WideShapes Go.ChangeAt

theorem CellsC.one_inv {w : World} {c : C} {v : Value} (h : CellsC w [c] [v]) : VC w (Kall w) c v := h.2 0 c v rfl rfl

def ArgD (s : Sh) (a : Val s) : D :=
  match s, s.enc a with
  | .cons _ _, cs => .agg (cs.map T.c)
  | .nil, cs => .agg (cs.map T.c)
  | _, [c] => .one (.c c)
  | _, _ => .any

def TabsAt (w : World) : Prop := ∀ g vs, gtab g = some vs → ∀ (o : Nat) v, vs[o]? = some v → v.oneCell' = true ∧ w.cell? ⟨g, o, none⟩ = some v

theorem law_calls {P : Program} {f : FuncId} {ds : List D} (hc : DCalls P f ds (.one (.c (.lit (.bool true))))) {w : World} {vs : Array Value} (hl : vs.size = ds.length) (hv : ∀ (j : Nat) d v, ds[j]? = some d → vs[j]? = some v → VD w (E0 (Kall w)) d v)
    (ht : TabsAt w) (hz : GSz w := by intro g hg; exact absurd hg (by simp [ztab])) (hE : ∀ g ∈ etab, ∃ ev, w.cell? ⟨g, 0, none⟩ = some ev ∧ (ev = .nilIface ∨ ∃ te pe, ev = .iface te pe) := by intro g hg; exact absurd hg (by simp [etab])) : Calls P f vs w fun e w' => e = .returned (.bool true) ∧ Below w.heap.size w w' := by
  refine (hc.2 w (Kall w) vs ⟨fun b o h => h, fun g vs hg o v hv => ?_, fun g hg => ?_, hz⟩ hl hv).mono ?_
  · obtain ⟨h1, h2⟩ := ht g vs hg o v hv
    exact ⟨h1, by simp [Kall, h2], h2⟩
  · obtain ⟨ev, h1, h2⟩ := hE g hg
    exact ⟨by simp [Kall, h1], ev, h1, h2⟩
  rintro e w' ⟨v, E', rfl, hr, hvd⟩
  exact ⟨by rw [hvd.lit], hr.below⟩
end Go.Dl

/- The logic of data: a range over a string in the text of an iterator: the iteration's own block beside the caller's world. -/
namespace Go.Dl
open Go.RowKit
noncomputable section

section
variable {P : Program} {m n : Nat} {J : Option Nat → World → KSet → Prop} {s : DS} {g ro : Option Nat} {Q : Exit → DS → Option Nat → Prop}

end
end
end Go.Dl

/- The reading of arguments, with their size. -/
namespace Go.Dl
open Go.RowKit Go.ChangeShapes Go.WideShapes Go.ChangeAt

def sizeV : (s : Sh) → Val s → Nat
  | .int _, _ => 1
  | .bool, _ => 1
  | .str, s => (show ByteArray from s).size + 1
  | .sl _ e, l => 1 + ((show List (Val e) from l).map (sizeV e)).sum
  | .nil, _ => 0
  | .cons f r, x => sizeV f x.1 + sizeV r x.2

structure IsBulk {H : Type} (B : DataW H → Nat) : Prop where
  pos : ∀ d, 1 ≤ B d
  str : ∀ bs : List UInt8, bs.length + 1 ≤ B (.lit (.string bs))
  sl : ∀ es ss : List (DataW H), 1 + (es.map B).sum ≤ B (.slice es ss)
  agg : ∀ ps : List (DataW H), (ps.map B).sum ≤ B (.agg ps)

section
variable {P : Program} {H : Type} {enc : TypeId × Value → H} {w : World} {sp : Nat → Bool} {held : Bool}
theorem trod_B {B : DataW H → Nat} (hB : IsBulk B) : (s : Sh) → (∀ (t : TypeId), Program.has P s (.inl t) = true → ∀ (fuel : Nat) (vs : List Value) x, DataW.trod enc P w 0 sp held fuel t vs = some x → ∃ a : Val s, s.ok a ∧ CellsC w (s.enc a) vs ∧ sizeV s a ≤ B x.1) ∧
    (∀ (fs : List Field) (o : Nat), Program.has P s (.inr (fs, o)) = true → ∀ (fuel : Nat) (vs : List Value), ∀ ys : List (DataW H × List MemPlace), ys.length = fs.length → (∀ (i : Nat) (f : Field), fs[i]? = some f → DataW.trod enc P w 0 sp held fuel f.type ((vs.drop f.offset).take (P.cellsOf f.type)) = ys[i]?) → vs.length = o + s.size →
      ∃ a : Val s, s.ok a ∧ CellsC w (s.enc a) (vs.drop o) ∧ sizeV s a ≤ (ys.map fun y => B y.1).sum)
  | .int k => by
    refine ⟨fun t ht fuel vs x h => ?_, fun fs o h => by simp [Program.has] at h⟩
    simp only [Program.has] at ht
    split at ht
    · rename_i k' hu
      have hk : k' = k := by simpa using ht
      subst hk
      obtain ⟨n, rfl, _, hw⟩ := DataW.trod_int hu h
      exact ⟨n, hw, CellsC.one (.lit _ rfl), hB.pos _⟩
    · cases ht
  | .bool => by
    refine ⟨fun t ht fuel vs x h => ?_, fun fs o h => by simp [Program.has] at h⟩
    simp only [Program.has] at ht
    split at ht
    · rename_i hu
      obtain ⟨b, rfl, _⟩ := DataW.trod_bool hu h
      exact ⟨b, trivial, CellsC.one (.lit _ rfl), hB.pos _⟩
    · cases ht
  | .str => by
    refine ⟨fun t ht fuel vs x h => ?_, fun fs o h => by simp [Program.has] at h⟩
    simp only [Program.has] at ht
    split at ht
    · rename_i hu
      obtain ⟨s, rfl, rfl, hs⟩ := DataW.trod_string hu h
      exact ⟨s, hs, CellsC.one (.lit _ rfl), by have := hB.str s.data.toList; simp only [sizeV]; simpa using this⟩
    · cases ht
  | .sl sz e => by
    refine ⟨fun t ht fuel vs x h => ?_, fun fs o h => by simp [Program.has] at h⟩
    simp only [Program.has] at ht
    split at ht
    · rename_i el hu
      simp only [Bool.and_eq_true, beq_iff_eq, decide_eq_true_eq] at ht
      obtain ⟨⟨⟨hc, hpos⟩, hes⟩, he⟩ := ht
      rcases Go.Deep.open_slice hu h with ⟨rfl, rfl⟩ | ⟨a, len, cap, m, n, D, Pl, rfl, hb, hl, hm, hmm, rfl, hx⟩
      · exact ⟨([] : List (Val e)), ⟨by simp, by simp⟩, CellsC.one (.nil sz), hB.pos _⟩
      · have hlm : len ≤ m := by subst hmm; split <;> omega
        have each : ∀ i, i < len → ∃ y : Val e, e.ok y ∧ ∃ cs', w.cells? 0 (a.add (i * sz)) sz = some cs' ∧ CellsC w (e.enc y) cs' ∧ sizeV e y ≤ B (D i) := fun i hi => by
          obtain ⟨cs', h1, h2⟩ := hx i (by omega)
          rw [hc] at h1
          obtain ⟨y, hy, hy2⟩ := (trod_B hB e).1 el he n cs' _ h2
          exact ⟨y, hy, cs', h1, hy2.1, hy2.2⟩
        have build : ∀ k, k ≤ len → ∃ l : List (Val e), l.length = k ∧ (∀ y ∈ l, e.ok y) ∧ (∀ i y, l[i]? = some y → ∃ cs', w.cells? 0 (a.add (i * sz)) sz = some cs' ∧ CellsC w (e.enc y) cs') ∧ (l.map (sizeV e)).sum ≤ ((List.range k).map fun i => B (D i)).sum := by
          intro k
          induction k with
          | zero => exact fun _ => ⟨[], rfl, by simp, by simp, by simp⟩
          | succ k ih =>
            intro hk
            obtain ⟨l, h1, h2, h3, h6⟩ := ih (by omega)
            obtain ⟨y, hy, cs', h4, h5, h7⟩ := each k (by omega)
            refine ⟨l ++ [y], by simp [h1], fun z hz => ?_, fun i z hz => ?_, by simp [List.range_succ]; omega⟩
            · rcases List.mem_append.1 hz with hz | hz
              · exact h2 z hz
              · rw [List.mem_singleton.1 hz]; exact hy
            · rw [List.getElem?_append] at hz
              split at hz
              · exact h3 i z hz
              · rename_i hi
                have : i = k := by
                  rcases Nat.lt_or_ge (i - l.length) 1 with h | h
                  · omega
                  · rw [List.getElem?_eq_none (by simpa using h)] at hz; cases hz
                subst this
                rw [h1, Nat.sub_self] at hz
                simp at hz; subst hz
                exact ⟨cs', h4, h5⟩
        obtain ⟨l, hll, hok, hcell, hsum⟩ := build len (Nat.le_refl _)
        subst hll
        refine ⟨l, ⟨by show l.length ≤ _; omega, hok⟩, CellsC.one ?_, by have := hB.sl ((List.range l.length).map D) ((List.range (m - l.length)).map fun j => D (l.length + j)); simp only [sizeV]; rw [List.map_map] at this; exact Nat.le_trans (Nat.add_le_add_left hsum 1) this⟩
        show VC w (Kall w) (.sl sz (l.map (Sh.enc e))) _
        have hlen : (l.map (Sh.enc e)).length = l.length := by simp
        have hsplit : ∀ j, j < l.length * sz → j / sz < l.length := fun j hj => Nat.div_lt_of_lt_mul (by rw [Nat.mul_comm]; exact hj)
        have hspot : 0 < l.length * sz → a.spot = none := fun h0 => by
          have hi : 0 < l.length := Nat.pos_of_mul_pos_right h0
          obtain ⟨cs', h1, h2⟩ := hcell 0 _ (List.getElem?_eq_getElem hi)
          obtain ⟨g1, g2⟩ := cells?_get h1
          have := g2 0 hpos
          rw [List.getElem?_eq_getElem (by omega)] at this
          simpa [Addr.add] using World.cell?_spot this
        have hcv : ∀ i j, i < l.length → j < sz → a.spot = none → ∃ y cs' v, l[i]? = some y ∧ cs'[j]? = some v ∧ CellsC w (e.enc y) cs' ∧ w.cell? ⟨a.block, a.off + (i * sz + j), none⟩ = some v := fun i j hi hj hs => by
          obtain ⟨cs', h1, h2⟩ := hcell i _ (List.getElem?_eq_getElem hi)
          obtain ⟨g1, g2⟩ := cells?_get h1
          have h3 := g2 j hj
          have hcj : cs'[j]? = some (cs'[j]'(by omega)) := List.getElem?_eq_getElem (by omega)
          have ha : a = ⟨a.block, a.off, none⟩ := by cases a; simp at hs; subst hs; rfl
          rw [ha, add_none, add_none, hcj] at h3
          refine ⟨_, cs', _, List.getElem?_eq_getElem hi, hcj, h2, ?_⟩
          rw [← h3, Nat.add_assoc]
        rw [show (Value.slice (some a) l.length cap) = .slice (some a) (l.map (Sh.enc e)).length cap by rw [hlen]]
        refine .sl sz _ a cap (fun j => (w.cell? ⟨a.block, a.off + j, none⟩).getD undef) (fun r hr => ?_) (by rw [hlen]; exact hl) hm (fun j hj => ?_) (fun i j r c hr hc => ?_)
        · obtain ⟨y, _, rfl⟩ := List.mem_map.1 hr
          rw [Sh.enc_len, hes]
        · rw [hlen] at hj
          have hs := hspot (by omega)
          obtain ⟨y, cs', v, _, _, _, h⟩ := hcv (j / sz) (j % sz) (hsplit j hj) (Nat.mod_lt _ hpos) hs
          have hd := Nat.div_add_mod j sz
          rw [Nat.mul_comm] at hd
          rw [hd] at h
          exact ⟨hs, by simp [Kall, h], by simp [h]⟩
        · rw [List.getElem?_map] at hr
          cases hy : l[i]? with
          | none => rw [hy] at hr; cases hr
          | some y =>
            rw [hy] at hr; injection hr with hr; subst hr
            have hi : i < l.length := (List.getElem?_eq_some_iff.1 hy).1
            have hj : j < sz := by
              have := (List.getElem?_eq_some_iff.1 hc).1
              rw [Sh.enc_len, hes] at this; exact this
            have hs := hspot (Nat.mul_pos (by omega) hpos)
            obtain ⟨y', cs', v, h1, h2, h3, h4⟩ := hcv i j hi hj hs
            rw [hy] at h1; injection h1 with h1; subst h1
            have := h3.2 j c v hc h2
            simpa [h4] using this
    · cases ht
  | .nil => by
    refine ⟨fun t ht => by simp [Program.has] at ht, fun fs o h fuel vs ys hy hf hl => ⟨(), trivial, ?_, Nat.zero_le _⟩⟩
    simp [Sh.size] at hl
    exact ⟨by simp [Sh.enc, hl], fun j c v h => by simp [Sh.enc] at h⟩
  | .cons f r => by
    have key : ∀ (fs : List Field) (o : Nat) fd rest, fs = fd :: rest → fd.offset = o → P.cellsOf fd.type = f.size → Program.has P f (.inl fd.type) = true → Program.has P r (.inr (rest, o + f.size)) = true →
        ∀ (fuel : Nat) (vs : List Value), ∀ ys : List (DataW H × List MemPlace), ys.length = fs.length → (∀ (i : Nat) (f : Field), fs[i]? = some f → DataW.trod enc P w 0 sp held fuel f.type ((vs.drop f.offset).take (P.cellsOf f.type)) = ys[i]?) → vs.length = o + (Sh.cons f r).size →
        ∃ a : Val (.cons f r), Sh.ok (.cons f r) a ∧ CellsC w (Sh.enc (.cons f r) a) (vs.drop o) ∧ sizeV (.cons f r) a ≤ (ys.map fun y => B y.1).sum := fun fs o fd rest e1 e2 e3 e4 e5 fuel vs ys hyl hf hl => by
      subst e1
      cases ys with
      | nil => simp at hyl
      | cons y ys =>
      have hy := hf 0 fd rfl
      rw [e2, e3] at hy
      obtain ⟨a, ha, hca, hsa⟩ := (trod_B hB f).1 _ e4 fuel _ y hy
      simp only [Sh.size] at hl
      obtain ⟨b, hb, hcb, hsb⟩ := (trod_B hB r).2 rest (o + f.size) e5 fuel vs ys (by simpa using hyl) (fun i g hg => by simpa using hf (i + 1) g (by simpa using hg)) (by omega)
      refine ⟨(a, b), ⟨ha, hb⟩, ?_, by simp only [sizeV, List.map_cons, List.sum_cons]; omega⟩
      have : vs.drop o = (vs.drop o).take f.size ++ vs.drop (o + f.size) := by
        rw [← List.drop_drop, List.take_append_drop]
      rw [this]
      exact hca.app hcb
    refine ⟨fun t ht fuel vs x h => ?_, fun fs o h fuel vs ys hyl hf hl => ?_⟩
    · simp only [Program.has] at ht
      split at ht
      · rename_i fa hu
        split at ht
        · rename_i fd rest hfs
          simp only [Bool.and_eq_true, beq_iff_eq] at ht
          obtain ⟨⟨⟨⟨h1, h2⟩, h3⟩, h4⟩, h5⟩ := ht
          obtain ⟨xs, n, _, rfl, hlen, hxl, hx⟩ := DataW.trod_struct hu h
          obtain ⟨a, q1, q2, q3⟩ := key fa.toList 0 fd rest hfs h2 h3 h4 (by simpa using h5) n vs xs (by simpa using hxl) (fun i g hg => hx i g (by simpa using hg)) (by simp only [Sh.size]; omega)
          refine ⟨a, q1, by simpa using q2, Nat.le_trans q3 ?_⟩
          have := hB.agg (xs.map (·.1))
          rw [List.map_map] at this; exact this
        · cases ht
      · cases ht
    · simp only [Program.has] at h
      split at h
      · rename_i fd rest
        simp only [Bool.and_eq_true, beq_iff_eq] at h
        obtain ⟨⟨⟨h2, h3⟩, h4⟩, h5⟩ := h
        exact key _ o fd rest rfl h2 h3 h4 h5 fuel vs ys hyl hf hl
      · cases h
end

theorem arg_readB {P : Program} {H : Type} {enc : TypeId × Value → H} {B : DataW H → Nat} (hB : IsBulk B) {w : World} {t : TypeId} {v : Value} {d : DataW H} {ps : List MemPlace} {base : Nat} (s : Sh) (hs : Program.has P s (.inl t) = true)
    (hok : Value.okWide P w .any base t v) (h : DataW.Trod enc P w 0 (fun _ => true) true t v d ps) : ∃ a : Val s, s.ok a ∧ VD w (E0 (Kall w)) (ArgD s a) v ∧ sizeV s a ≤ B d := by
  obtain ⟨fuel, hf⟩ := h
  obtain ⟨a, ha, hc, hsz⟩ := (trod_B hB s).1 t hs fuel _ _ hf
  refine ⟨a, ha, ?_, hsz⟩
  have single : ∀ c : C, s.enc a = [c] → (∃ x, v = x ∧ x.cells = #[x]) → VD w (E0 (Kall w)) (.one (.c c)) v := fun c e ⟨x, e1, e2⟩ => by
    subst e1
    rw [e, e2] at hc
    exact .one _ _ (.c _ _ hc.one_inv)
  have aggr : (∃ cs, v = .agg cs) → VD w (E0 (Kall w)) (.agg ((s.enc a).map T.c)) v := fun ⟨cs, e⟩ => by
    subst e
    have hcs : CellsC w (s.enc a) cs.toList := hc
    refine .agg _ _ (by have := hcs.1; simpa using this) fun j t v h1 h2 => ?_
    rw [List.getElem?_map] at h1
    cases hx : (s.enc a)[j]? with
    | none => rw [hx] at h1; cases h1
    | some c =>
      rw [hx] at h1; injection h1 with h1; subst h1
      exact .c _ _ (hcs.2 j c v hx (by simpa using h2))
  cases s with
  | int k =>
    simp only [Program.has] at hs
    split at hs
    · rename_i k' hu
      obtain ⟨n, rfl⟩ := okWide_int hu hok
      exact single _ rfl ⟨_, rfl, rfl⟩
    · cases hs
  | bool =>
    simp only [Program.has] at hs
    split at hs
    · rename_i hu
      obtain ⟨n, rfl⟩ := okWide_bool hu hok
      exact single _ rfl ⟨_, rfl, rfl⟩
    · cases hs
  | str =>
    simp only [Program.has] at hs
    split at hs
    · rename_i hu
      obtain ⟨n, rfl⟩ := okWide_string hu hok
      exact single _ rfl ⟨_, rfl, rfl⟩
    · cases hs
  | sl sz e =>
    simp only [Program.has] at hs
    split at hs
    · rename_i el hu
      obtain ⟨x, len, cap, rfl⟩ := okWide_slice hu hok
      exact single _ rfl ⟨_, rfl, rfl⟩
    · cases hs
  | nil => simp [Program.has] at hs
  | cons f r =>
    simp only [Program.has] at hs
    split at hs
    · rename_i fs hu
      simp only [Value.okWide, hu] at hok
      obtain ⟨cs, rfl, _⟩ := hok
      exact aggr ⟨cs, rfl⟩
    · cases hs

end Go.Dl

/- The logic of data: a contract that the kit proves at the machine, as one said by data. -/
namespace Go.Dl
open Go.RowKit
noncomputable section

theorem below_kok {w w' : World} {K : KSet} (hk : KOk w K) (hb : Below w.heap.size w w') : KOk w' K :=
  hk.move (fun b o h => hb.cell (p := ⟨b, o, none⟩) (lt_of_cell (hk b o h))) (hk.z.below hb)

theorem dcalls_below {P : Program} {f : FuncId} {ds : List D} {u : Value} (hp : Program.plainF P f = true) (hu : u.oneCell' = true)
    (h : ∀ (w : World) (K : KSet) (vs : Array Value), KOk w K → vs.size = ds.length → (∀ (j : Nat) d v, ds[j]? = some d → vs[j]? = some v → VD w (E0 K) d v) → Calls P f vs w fun e w' => e = .returned u ∧ Below w.heap.size w w') :
    DCalls P f ds (.one (.c (.lit u))) := by
  refine ⟨hp, fun w K vs hk hl hv => (h w K vs hk hl hv).mono ?_⟩
  rintro e w' ⟨rfl, hb⟩
  have hns : ∀ n b o, ¬ spare ((E0 K).val n) b o := fun n b o ⟨a, len, cap, h1, _⟩ => by simp [E0] at h1
  exact ⟨u, E0 K, rfl, ⟨hb, fun _ _ h => h, fun _ _ _ h => h, below_kok hk hb, fun n b o hs => absurd hs (hns n b o), fun n m b o hs => absurd hs (hns n b o)⟩, .one _ _ (.c _ _ (.lit _ hu))⟩

theorem calls_lit {P : Program} {f : FuncId} {ds : List D} {u : Value} (hD : DCalls P f ds (.one (.c (.lit u)))) {w : World} {K : KSet} {vs : Array Value} (hk : KOk w K) (hl : vs.size = ds.length) (hv : ∀ (j : Nat) d v, ds[j]? = some d → vs[j]? = some v → VD w (E0 K) d v) :
    Calls P f vs w fun e w' => e = .returned u ∧ Below w.heap.size w w' :=
  (hD.2 w K vs hk hl hv).mono fun e w' h => by
    obtain ⟨v, E', rfl, hext, hv⟩ := h
    rw [hv.lit]
    exact ⟨rfl, hext.1⟩

/-! ### A scope that is left by no jump -/

def noGotoD (Q : Exit → DS → Prop) : Exit → DS → Prop
  | .goto _, _ => False
  | e, s => Q e s

theorem noGotoD_normal (Q : Exit → DS → Prop) (s : DS) : noGotoD Q .normal s = Q .normal s := rfl
theorem noGotoD_ret (Q : Exit → DS → Prop) (s : DS) : noGotoD Q .ret s = Q .ret s := rfl
theorem noGotoD_exit (Q : Exit → DS → Prop) (id : Nat) (s : DS) : noGotoD Q (.exit id) s = Q (.exit id) s := rfl
attribute [go_sem ↓] noGotoD_normal noGotoD_ret noGotoD_exit

end
end Go.Dl

/- The logic of data: a region whose order is drawn, where up to three operations may come up. -/
namespace Go.Dl
open Go.RowKit
noncomputable section

inductive PQ where
  | leaf
  | run (l : List Nat) (t : PQ)
  | two (i : Nat) (t : PQ) (j : Nat) (u : PQ)
  | thr (i : Nat) (t : PQ) (j : Nat) (u : PQ) (k : Nat) (v : PQ)

def PQ.len : PQ → Nat
  | .leaf => 0
  | .run l t => l.length + t.len
  | .two _ t _ _ => 1 + t.len
  | .thr _ t _ _ _ _ => 1 + t.len

def PQ.wk (P : Program) (ops : List Oper) (hd : List Nat) (ds : List (Option Nat)) : PQ → DS → (DS → Prop) → Prop
  | .leaf, s, K => K s
  | .run l t, s, K => Go.Dl.wk P ds (pickH ops hd l) s fun s' => t.wk P ops hd ds s' K
  | .two i t j u, s, K => (Go.Dl.wk P ds (pickH ops hd [i]) s fun s' => t.wk P ops hd ds s' K) ∧ Go.Dl.wk P ds (pickH ops hd [j]) s fun s' => u.wk P ops hd ds s' K
  | .thr i t j u k v, s, K => (Go.Dl.wk P ds (pickH ops hd [i]) s fun s' => t.wk P ops hd ds s' K) ∧ (Go.Dl.wk P ds (pickH ops hd [j]) s fun s' => u.wk P ops hd ds s' K) ∧ Go.Dl.wk P ds (pickH ops hd [k]) s fun s' => v.wk P ops hd ds s' K

section
variable {P : Program}

theorem pqwk_leaf (ops : List Oper) (hd : List Nat) (ds : List (Option Nat)) (s : DS) (K : DS → Prop) : PQ.leaf.wk P ops hd ds s K = K s := rfl
theorem pqwk_run (ops : List Oper) (hd : List Nat) (ds : List (Option Nat)) (l : List Nat) (t : PQ) (s : DS) (K : DS → Prop) : (PQ.run l t).wk P ops hd ds s K = Go.Dl.wk P ds (pickH ops hd l) s fun s' => t.wk P ops hd ds s' K := rfl
theorem pqwk_two (ops : List Oper) (hd : List Nat) (ds : List (Option Nat)) (i j : Nat) (t u : PQ) (s : DS) (K : DS → Prop) : (PQ.two i t j u).wk P ops hd ds s K = ((Go.Dl.wk P ds (pickH ops hd [i]) s fun s' => t.wk P ops hd ds s' K) ∧ Go.Dl.wk P ds (pickH ops hd [j]) s fun s' => u.wk P ops hd ds s' K) := rfl
theorem pqwk_thr (ops : List Oper) (hd : List Nat) (ds : List (Option Nat)) (i j k : Nat) (t u v : PQ) (s : DS) (K : DS → Prop) : (PQ.thr i t j u k v).wk P ops hd ds s K = ((Go.Dl.wk P ds (pickH ops hd [i]) s fun s' => t.wk P ops hd ds s' K) ∧ (Go.Dl.wk P ds (pickH ops hd [j]) s fun s' => u.wk P ops hd ds s' K) ∧ Go.Dl.wk P ds (pickH ops hd [k]) s fun s' => v.wk P ops hd ds s' K) := rfl
attribute [go_sem] pqwk_leaf pqwk_run pqwk_two pqwk_thr
end
end
end Go.Dl

/- The logic of data: a region whose order is drawn, with operations that look at slots alone anywhere among the ways; lists without memory. -/
namespace Go.Dl
open Go.RowKit
noncomputable section

theorem dcalls_le {P : Program} {f : FuncId} {ds ds' : List D} {r : D} (hl : DLeL ds ds') (hc : DCalls P f ds' r) : DCalls P f ds r :=
  ⟨hc.1, fun w K vs hk hs hv => hc.2 w K vs hk (by rw [hs, hl.get.1]) fun j d' v hd' hv' => by
    obtain ⟨d, hd, hle⟩ := hl.get.2 j d' hd'
    exact hle w _ v (hv j d v hd hv')⟩

theorem dle_rfl (d : D) : DLe d d := fun w E v h => h

inductive PR where
  | leaf
  | run (l : List Nat) (t : PR)
  | bl (i : Nat) (t : PR)
  | ex (i : Nat) (t : PR)
  | dia (i j : Nat) (t : PR)
  | here (a : Array Bool) (t : PR)
  | two (i : Nat) (t : PR) (j : Nat) (u : PR)
  | thr (i : Nat) (t : PR) (j : Nat) (u : PR) (k : Nat) (v : PR)

def PR.len : PR → Nat
  | .leaf => 0
  | .run l t => l.length + t.len
  | .bl _ t => 1 + t.len
  | .ex _ t => 1 + t.len
  | .dia _ _ t => 2 + t.len
  | .here _ t => t.len
  | .two _ t _ _ => 1 + t.len
  | .thr _ t _ _ _ _ => 1 + t.len

def PR.wk (P : Program) (ops : List Oper) (hd : List Nat) (ds : List (Option Nat)) : PR → DS → (DS → Prop) → Prop
  | .leaf, s, K => K s
  | .run l t, s, K => Go.Dl.wk P ds (pickH ops hd l) s fun s' => t.wk P ops hd ds s' K
  | .bl i t, s, K => Go.Dl.wk P ds (pickM ops .blind [i]) s fun s' => t.wk P ops hd ds s' K
  | .ex i t, s, K => Go.Dl.wk P ds (pickM ops .light [i]) s fun s' => t.wk P ops hd ds s' K
  | .dia i j t, s, K => Go.Dl.wk P ds (pickM ops .light [i, j]) s fun s' => t.wk P ops hd ds s' K
  | .here _ t, s, K => t.wk P ops hd ds s K
  | .two i t j u, s, K => (Go.Dl.wk P ds (pickH ops hd [i]) s fun s' => t.wk P ops hd ds s' K) ∧ Go.Dl.wk P ds (pickH ops hd [j]) s fun s' => u.wk P ops hd ds s' K
  | .thr i t j u k v, s, K => (Go.Dl.wk P ds (pickH ops hd [i]) s fun s' => t.wk P ops hd ds s' K) ∧ (Go.Dl.wk P ds (pickH ops hd [j]) s fun s' => u.wk P ops hd ds s' K) ∧ Go.Dl.wk P ds (pickH ops hd [k]) s fun s' => v.wk P ops hd ds s' K

section
variable {P : Program}

theorem prwk_leaf (ops : List Oper) (hd : List Nat) (ds : List (Option Nat)) (s : DS) (K : DS → Prop) : PR.leaf.wk P ops hd ds s K = K s := rfl
theorem prwk_run (ops : List Oper) (hd : List Nat) (ds : List (Option Nat)) (l : List Nat) (t : PR) (s : DS) (K : DS → Prop) : (PR.run l t).wk P ops hd ds s K = Go.Dl.wk P ds (pickH ops hd l) s fun s' => t.wk P ops hd ds s' K := rfl
theorem prwk_bl (ops : List Oper) (hd : List Nat) (ds : List (Option Nat)) (i : Nat) (t : PR) (s : DS) (K : DS → Prop) : (PR.bl i t).wk P ops hd ds s K = Go.Dl.wk P ds (pickM ops .blind [i]) s fun s' => t.wk P ops hd ds s' K := rfl
theorem prwk_ex (ops : List Oper) (hd : List Nat) (ds : List (Option Nat)) (i : Nat) (t : PR) (s : DS) (K : DS → Prop) : (PR.ex i t).wk P ops hd ds s K = Go.Dl.wk P ds (pickM ops .light [i]) s fun s' => t.wk P ops hd ds s' K := rfl
theorem prwk_dia (ops : List Oper) (hd : List Nat) (ds : List (Option Nat)) (i j : Nat) (t : PR) (s : DS) (K : DS → Prop) : (PR.dia i j t).wk P ops hd ds s K = Go.Dl.wk P ds (pickM ops .light [i, j]) s fun s' => t.wk P ops hd ds s' K := rfl
theorem prwk_here (ops : List Oper) (hd : List Nat) (ds : List (Option Nat)) (a : Array Bool) (t : PR) (s : DS) (K : DS → Prop) : (PR.here a t).wk P ops hd ds s K = t.wk P ops hd ds s K := rfl
theorem prwk_two (ops : List Oper) (hd : List Nat) (ds : List (Option Nat)) (i j : Nat) (t u : PR) (s : DS) (K : DS → Prop) : (PR.two i t j u).wk P ops hd ds s K = ((Go.Dl.wk P ds (pickH ops hd [i]) s fun s' => t.wk P ops hd ds s' K) ∧ Go.Dl.wk P ds (pickH ops hd [j]) s fun s' => u.wk P ops hd ds s' K) := rfl
theorem prwk_thr (ops : List Oper) (hd : List Nat) (ds : List (Option Nat)) (i j k : Nat) (t u v : PR) (s : DS) (K : DS → Prop) : (PR.thr i t j u k v).wk P ops hd ds s K = ((Go.Dl.wk P ds (pickH ops hd [i]) s fun s' => t.wk P ops hd ds s' K) ∧ (Go.Dl.wk P ds (pickH ops hd [j]) s fun s' => u.wk P ops hd ds s' K) ∧ Go.Dl.wk P ds (pickH ops hd [k]) s fun s' => v.wk P ops hd ds s' K) := rfl
attribute [go_sem] prwk_leaf prwk_run prwk_bl prwk_ex prwk_dia prwk_here prwk_two prwk_thr
end
end
end Go.Dl

attribute [go_sem] reduceIte reduceCtorEq Nat.reduceEqDiff Nat.reduceAdd Nat.reduceMul Nat.reduceSub Nat.reduceLeDiff Nat.reduceBEq

/- Closed facts of the types of this translation, each asked of the kernel. -/
namespace Go.Proofs.YtfliennlinngeaaDoor
open Go.Dl
open Go.Dl renaming dw_seq → kA, dw_block → kB, dw_reg → kC, dw_skip → kD, dw_exit → kE, dw_ret → kF, dw_cond → kG, guardC_f → kH, guardC_t → kI, dw_drw → kJ, dw_weaken → kK, sub_kn → kL, sub_ml → kM
open Go.Dl.CallC renaming mk → kN, light → kO
open Go.Dl.LeL renaming of_eq → kP
@[go_sem] theorem ldk_3 : Program.ldk Tryd.prog 3 = some none := by kernel_rfl
@[go_sem] theorem cellsOfT_3 : cellsOfT Tryd.prog 3 = some 1 := by kernel_rfl
@[go_sem] theorem zeroC_3 : Program.zeroC Tryd.prog 3 = some [.lit (.int .i64 0)] := by kernel_rfl
@[go_sem] theorem zeroT_3 : Program.zeroT Tryd.prog 3 = some [.c (.lit (.int .i64 0))] := by kernel_rfl
attribute [go_sem] Tryd.underlying3
@[go_sem] theorem ldk_4 : Program.ldk Tryd.prog 4 = some none := by kernel_rfl
@[go_sem] theorem cellsOfT_4 : cellsOfT Tryd.prog 4 = some 1 := by kernel_rfl
@[go_sem] theorem zeroC_4 : Program.zeroC Tryd.prog 4 = some [.lit (.bool false)] := by kernel_rfl
@[go_sem] theorem zeroT_4 : Program.zeroT Tryd.prog 4 = some [.c (.lit (.bool false))] := by kernel_rfl
attribute [go_sem] Tryd.underlying4
@[go_sem] theorem isBoolT_4 : Program.isBoolT Tryd.prog 4 = true := by kernel_rfl
@[go_sem] theorem ldk_5 : Program.ldk Tryd.prog 5 = some none := by kernel_rfl
@[go_sem] theorem cellsOfT_5 : cellsOfT Tryd.prog 5 = some 1 := by kernel_rfl
@[go_sem] theorem zeroC_5 : Program.zeroC Tryd.prog 5 = some [.lit (.int .u8 0)] := by kernel_rfl
@[go_sem] theorem zeroT_5 : Program.zeroT Tryd.prog 5 = some [.c (.lit (.int .u8 0))] := by kernel_rfl
attribute [go_sem] Tryd.underlying5
@[go_sem] theorem ldk_9 : Program.ldk Tryd.prog 9 = some none := by kernel_rfl
@[go_sem] theorem cellsOfT_9 : cellsOfT Tryd.prog 9 = some 1 := by kernel_rfl
@[go_sem] theorem zeroC_9 : Program.zeroC Tryd.prog 9 = some [.lit (.string ⟨#[]⟩)] := by kernel_rfl
@[go_sem] theorem zeroT_9 : Program.zeroT Tryd.prog 9 = some [.c (.lit (.string ⟨#[]⟩))] := by kernel_rfl
attribute [go_sem] Tryd.underlying9
@[go_sem] theorem ldk_29 : Program.ldk Tryd.prog 29 = some none := by kernel_rfl
@[go_sem] theorem cellsOfT_29 : cellsOfT Tryd.prog 29 = some 1 := by kernel_rfl
@[go_sem] theorem zeroC_29 : Program.zeroC Tryd.prog 29 = some [.lit .nilFunc] := by kernel_rfl
@[go_sem] theorem zeroT_29 : Program.zeroT Tryd.prog 29 = some [.c (.lit .nilFunc)] := by kernel_rfl
attribute [go_sem] Tryd.underlying29
@[go_sem] theorem ldk_31 : Program.ldk Tryd.prog 31 = some none := by kernel_rfl
@[go_sem] theorem cellsOfT_31 : cellsOfT Tryd.prog 31 = some 1 := by kernel_rfl
@[go_sem] theorem elemSz_31 : Program.elemSz Tryd.prog 31 = some 1 := by kernel_rfl
@[go_sem] theorem appInfo_31 : appInfo Tryd.prog 31 = some (1, 8) := by kernel_rfl
@[go_sem] theorem zeroC_31 : Program.zeroC Tryd.prog 31 = some [.sl 1 []] := by kernel_rfl
@[go_sem] theorem zeroT_31 : Program.zeroT Tryd.prog 31 = some [.ex 1 []] := by kernel_rfl
@[go_sem] theorem nilT_31 : Program.nilT Tryd.prog 31 = true := by kernel_rfl
attribute [go_sem] Tryd.underlying31
@[go_sem] theorem ldk_43 : Program.ldk Tryd.prog 43 = some none := by kernel_rfl
@[go_sem] theorem cellsOfT_43 : cellsOfT Tryd.prog 43 = some 1 := by kernel_rfl
@[go_sem] theorem elemSz_43 : Program.elemSz Tryd.prog 43 = some 1 := by kernel_rfl
@[go_sem] theorem appInfo_43 : appInfo Tryd.prog 43 = some (1, 1) := by kernel_rfl
@[go_sem] theorem zeroC_43 : Program.zeroC Tryd.prog 43 = some [.sl 1 []] := by kernel_rfl
@[go_sem] theorem zeroT_43 : Program.zeroT Tryd.prog 43 = some [.ex 1 []] := by kernel_rfl
@[go_sem] theorem nilT_43 : Program.nilT Tryd.prog 43 = true := by kernel_rfl
attribute [go_sem] Tryd.underlying43
@[go_sem] theorem ldk_46 : Program.ldk Tryd.prog 46 = some none := by kernel_rfl
@[go_sem] theorem cellsOfT_46 : cellsOfT Tryd.prog 46 = some 1 := by kernel_rfl
@[go_sem] theorem zeroC_46 : Program.zeroC Tryd.prog 46 = some [.lit .nilFunc] := by kernel_rfl
@[go_sem] theorem zeroT_46 : Program.zeroT Tryd.prog 46 = some [.c (.lit .nilFunc)] := by kernel_rfl
attribute [go_sem] Tryd.underlying46
@[go_sem] theorem ldk_54 : Program.ldk Tryd.prog 54 = some none := by kernel_rfl
@[go_sem] theorem cellsOfT_54 : cellsOfT Tryd.prog 54 = some 1 := by kernel_rfl
@[go_sem] theorem elemSz_54 : Program.elemSz Tryd.prog 54 = some 1 := by kernel_rfl
@[go_sem] theorem appInfo_54 : appInfo Tryd.prog 54 = some (1, 24) := by kernel_rfl
@[go_sem] theorem zeroC_54 : Program.zeroC Tryd.prog 54 = some [.sl 1 []] := by kernel_rfl
@[go_sem] theorem zeroT_54 : Program.zeroT Tryd.prog 54 = some [.ex 1 []] := by kernel_rfl
@[go_sem] theorem nilT_54 : Program.nilT Tryd.prog 54 = true := by kernel_rfl
attribute [go_sem] Tryd.underlying54
end Go.Proofs.YtfliennlinngeaaDoor

/- The sort of numbers of the library, laid at this program (written by the kit). -/
namespace Go.Proofs.YtfliennlinngeaaDoor
open Go.Shelf
def sortA_ren : Go.Shelf.Ren := ⟨fun | 5 => 44 | 8 => 59 | 7 => 58 | 19 => 77 | 20 => 78 | 10 => 68 | 11 => 69 | 12 => 70 | 13 => 71 | 14 => 72 | 15 => 73 | 16 => 74 | 17 => 75 | 18 => 76 | 30 => 85 | 31 => 86 | 32 => 87 | 33 => 88 | 34 => 89 | 35 => 90 | 40 => 93 | n => n, fun | 23 => 31 | 25 => 3 | 3 => 3 | 32 => 67 | 22 => 31 | 0 => 0 | 44 => 90 | 46 => 69 | 4 => 4 | 36 => 83 | 35 => 82 | 41 => 25 | 5 => 5 | 9 => 9 | 53 => 100 | 57 => 104 | 63 => 106 | 64 => 107 | n => n, fun | n => n⟩
theorem sortA : Go.Proofs.SlLaysM.n5 Tryd.prog sortA_ren := {
  mixed := by kernel_rfl
  f5 := ⟨Tryd.f44.name, by decide, Tryd.func44.trans (congrArg some (by kernel_rfl))⟩
  f7 := ⟨Tryd.f58.name, by decide, Tryd.func58.trans (congrArg some (by kernel_rfl))⟩
  f8 := Tryd.func59.trans (congrArg some (by kernel_rfl))
  f10 := ⟨Tryd.f68.name, by decide, Tryd.func68.trans (congrArg some (by kernel_rfl))⟩
  f11 := ⟨Tryd.f69.name, by decide, Tryd.func69.trans (congrArg some (by kernel_rfl))⟩
  f12 := ⟨Tryd.f70.name, by decide, Tryd.func70.trans (congrArg some (by kernel_rfl))⟩
  f13 := ⟨Tryd.f71.name, by decide, Tryd.func71.trans (congrArg some (by kernel_rfl))⟩
  f14 := ⟨Tryd.f72.name, by decide, Tryd.func72.trans (congrArg some (by kernel_rfl))⟩
  f15 := ⟨Tryd.f73.name, by decide, Tryd.func73.trans (congrArg some (by kernel_rfl))⟩
  f16 := ⟨Tryd.f74.name, by decide, Tryd.func74.trans (congrArg some (by kernel_rfl))⟩
  f17 := ⟨Tryd.f75.name, by decide, Tryd.func75.trans (congrArg some (by kernel_rfl))⟩
  f18 := ⟨Tryd.f76.name, by decide, Tryd.func76.trans (congrArg some (by kernel_rfl))⟩
  f19 := Tryd.func77.trans (congrArg some (by kernel_rfl))
  f20 := Tryd.func78.trans (congrArg some (by kernel_rfl))
  f30 := ⟨Tryd.f85.name, by decide, Tryd.func85.trans (congrArg some (by kernel_rfl))⟩
  f31 := Tryd.func86.trans (congrArg some (by kernel_rfl))
  f32 := Tryd.func87.trans (congrArg some (by kernel_rfl))
  f33 := ⟨Tryd.f88.name, by decide, Tryd.func88.trans (congrArg some (by kernel_rfl))⟩
  f34 := ⟨Tryd.f89.name, by decide, Tryd.func89.trans (congrArg some (by kernel_rfl))⟩
  f35 := ⟨Tryd.f90.name, by decide, Tryd.func90.trans (congrArg some (by kernel_rfl))⟩
  f40 := ⟨Tryd.f93.name, by decide, Tryd.func93.trans (congrArg some (by kernel_rfl))⟩
  t0 := Tryd.underlying0
  a0 := Tryd.isAgg0
  z0 := Tryd.sizeOf0
  v0 := Tryd.zeroValue0
  t3 := Tryd.underlying3
  a3 := Tryd.isAgg3
  z3 := Tryd.sizeOf3
  v3 := Tryd.zeroValue3
  t4 := Tryd.underlying4
  a4 := Tryd.isAgg4
  z4 := Tryd.sizeOf4
  v4 := Tryd.zeroValue4
  t5 := Tryd.underlying5
  a5 := Tryd.isAgg5
  z5 := Tryd.sizeOf5
  v5 := Tryd.zeroValue5
  t9 := Tryd.underlying9
  a9 := Tryd.isAgg9
  z9 := Tryd.sizeOf9
  v9 := Tryd.zeroValue9
  t22 := Tryd.underlying31
  a22 := Tryd.isAgg31
  z22 := Tryd.sizeOf31
  v22 := Tryd.zeroValue31
  t23 := Tryd.underlying31
  a23 := Tryd.isAgg31
  z23 := Tryd.sizeOf31
  v23 := Tryd.zeroValue31
  t25 := Tryd.underlying3
  a25 := Tryd.isAgg3
  z25 := Tryd.sizeOf3
  v25 := Tryd.zeroValue3
  t32 := Tryd.underlying67
  a32 := Tryd.isAgg67
  z32 := Tryd.sizeOf67
  v32 := Tryd.zeroValue67
  t35 := Tryd.underlying82
  a35 := Tryd.isAgg82
  z35 := Tryd.sizeOf82
  v35 := Tryd.zeroValue82
  t36 := Tryd.underlying83
  a36 := Tryd.isAgg83
  z36 := Tryd.sizeOf83
  v36 := Tryd.zeroValue83
  t41 := Tryd.underlying25
  a41 := Tryd.isAgg25
  z41 := Tryd.sizeOf25
  v41 := Tryd.zeroValue25
  t44 := Tryd.underlying90
  a44 := Tryd.isAgg90
  z44 := Tryd.sizeOf90
  v44 := Tryd.zeroValue90
  t46 := Tryd.underlying69
  a46 := Tryd.isAgg69
  z46 := Tryd.sizeOf69
  v46 := Tryd.zeroValue69
  t53 := Tryd.underlying100
  a53 := Tryd.isAgg100
  z53 := Tryd.sizeOf100
  v53 := Tryd.zeroValue100
  t57 := Tryd.underlying104
  a57 := Tryd.isAgg104
  z57 := Tryd.sizeOf104
  v57 := Tryd.zeroValue104
  t63 := Tryd.underlying106
  a63 := Tryd.isAgg106
  z63 := Tryd.sizeOf106
  v63 := Tryd.zeroValue106
  t64 := Tryd.underlying107
  a64 := Tryd.isAgg107
  z64 := Tryd.sizeOf107
  v64 := Tryd.zeroValue107 }
end Go.Proofs.YtfliennlinngeaaDoor

/- What is taken from the shelf, laid at this program (written by the kit). -/
namespace Go.Proofs.YtfliennlinngeaaDoor
open Go.Shelf
def Tryd.laysI_ren : Go.Shelf.Ren := ⟨fun | 171 => 32 | 243 => 42 | 246 => 56 | 283 => 64 | 284 => 65 | 285 => 66 | 286 => 67 | 129 => 78 | 317 => 81 | 318 => 82 | 319 => 83 | 320 => 84 | 337 => 91 | 338 => 92 | n => n, fun | 3 => 3 | 9 => 9 | 2 => 2 | 4 => 4 | 171 => 76 | 0 => 0 | 53 => 69 | 37 => 43 | 5 => 5 | 173 => 79 | 212 => 98 | 51 => 90 | 20 => 20 | 213 => 99 | 46 => 67 | 232 => 109 | 233 => 110 | n => n, fun | 17 => 3 | 18 => 4 | 19 => 5 | n => n⟩
theorem Tryd.laysI : Go.Proofs.LaysM.n171 Tryd.prog Tryd.laysI_ren := {
  mixed := by kernel_rfl
  f129 := Tryd.func78.trans (congrArg some (by kernel_rfl))
  f171 := Tryd.func32.trans (congrArg some (by kernel_rfl))
  f243 := Tryd.func42.trans (congrArg some (by kernel_rfl))
  f246 := Tryd.func56.trans (congrArg some (by kernel_rfl))
  f283 := Tryd.func64.trans (congrArg some (by kernel_rfl))
  f284 := Tryd.func65.trans (congrArg some (by kernel_rfl))
  f285 := Tryd.func66.trans (congrArg some (by kernel_rfl))
  f286 := Tryd.func67.trans (congrArg some (by kernel_rfl))
  f317 := Tryd.func81.trans (congrArg some (by kernel_rfl))
  f318 := Tryd.func82.trans (congrArg some (by kernel_rfl))
  f319 := Tryd.func83.trans (congrArg some (by kernel_rfl))
  f320 := Tryd.func84.trans (congrArg some (by kernel_rfl))
  f337 := Tryd.func91.trans (congrArg some (by kernel_rfl))
  f338 := Tryd.func92.trans (congrArg some (by kernel_rfl))
  t0 := Tryd.underlying0
  a0 := Tryd.isAgg0
  z0 := Tryd.sizeOf0
  v0 := Tryd.zeroValue0
  t2 := Tryd.underlying2
  a2 := Tryd.isAgg2
  z2 := Tryd.sizeOf2
  v2 := Tryd.zeroValue2
  t3 := Tryd.underlying3
  a3 := Tryd.isAgg3
  z3 := Tryd.sizeOf3
  v3 := Tryd.zeroValue3
  t4 := Tryd.underlying4
  a4 := Tryd.isAgg4
  z4 := Tryd.sizeOf4
  v4 := Tryd.zeroValue4
  t5 := Tryd.underlying5
  a5 := Tryd.isAgg5
  z5 := Tryd.sizeOf5
  v5 := Tryd.zeroValue5
  t9 := Tryd.underlying9
  a9 := Tryd.isAgg9
  z9 := Tryd.sizeOf9
  v9 := Tryd.zeroValue9
  t20 := Tryd.underlying20
  a20 := Tryd.isAgg20
  z20 := Tryd.sizeOf20
  v20 := Tryd.zeroValue20
  t37 := Tryd.underlying43
  a37 := Tryd.isAgg43
  z37 := Tryd.sizeOf43
  v37 := Tryd.zeroValue43
  t46 := Tryd.underlying67
  a46 := Tryd.isAgg67
  z46 := Tryd.sizeOf67
  v46 := Tryd.zeroValue67
  t51 := Tryd.underlying90
  a51 := Tryd.isAgg90
  z51 := Tryd.sizeOf90
  v51 := Tryd.zeroValue90
  t53 := Tryd.underlying69
  a53 := Tryd.isAgg69
  z53 := Tryd.sizeOf69
  v53 := Tryd.zeroValue69
  t171 := Tryd.underlying76
  a171 := Tryd.isAgg76
  z171 := Tryd.sizeOf76
  v171 := Tryd.zeroValue76
  t173 := Tryd.underlying79
  a173 := Tryd.isAgg79
  z173 := Tryd.sizeOf79
  v173 := Tryd.zeroValue79
  t212 := Tryd.underlying98
  a212 := Tryd.isAgg98
  z212 := Tryd.sizeOf98
  v212 := Tryd.zeroValue98
  t213 := Tryd.underlying99
  a213 := Tryd.isAgg99
  z213 := Tryd.sizeOf99
  t232 := Tryd.underlying109
  a232 := Tryd.isAgg109
  z232 := Tryd.sizeOf109
  v232 := Tryd.zeroValue109
  t233 := Tryd.underlying110
  a233 := Tryd.isAgg110
  z233 := Tryd.sizeOf110
  v233 := Tryd.zeroValue110
  g17 := by kernel_rfl
  g18 := by kernel_rfl
  g19 := by kernel_rfl
  i0 := by kernel_rfl
  i2 := by kernel_rfl
  i3 := by kernel_rfl
  i4 := by kernel_rfl
  i5 := by kernel_rfl
  i9 := by kernel_rfl
  i20 := by kernel_rfl
  i37 := by kernel_rfl
  i46 := by kernel_rfl
  i51 := by kernel_rfl
  i53 := by kernel_rfl
  i171 := by kernel_rfl
  i173 := by kernel_rfl
  i212 := by kernel_rfl
  i232 := by kernel_rfl
  i233 := by kernel_rfl
  m17 := by kernel_rfl
  m18 := by kernel_rfl
  m19 := by kernel_rfl }
def Tryd.laysA_ren : Go.Shelf.Ren := ⟨fun | 172 => 31 | 244 => 40 | 245 => 41 | 247 => 51 | 279 => 52 | 280 => 53 | 281 => 54 | 282 => 55 | 287 => 61 | 316 => 62 | 171 => 32 | 205 => 63 | 321 => 79 | 322 => 80 | 243 => 42 | 246 => 56 | 283 => 64 | 284 => 65 | 285 => 66 | 286 => 67 | 129 => 78 | 317 => 81 | 318 => 82 | 319 => 83 | 320 => 84 | 337 => 91 | 338 => 92 | n => n, fun | 9 => 9 | 3 => 3 | 75 => 39 | 76 => 40 | 4 => 4 | 5 => 5 | 167 => 57 | 37 => 43 | 0 => 0 | 85 => 58 | 2 => 2 | 168 => 60 | 53 => 69 | 175 => 70 | 46 => 67 | 210 => 74 | 127 => 92 | 145 => 95 | 143 => 93 | 21 => 21 | 171 => 76 | 173 => 79 | 212 => 98 | 51 => 90 | 20 => 20 | 213 => 99 | 232 => 109 | 233 => 110 | 80 => 111 | n => n, fun | 15 => 1 | 16 => 2 | 17 => 3 | 18 => 4 | 19 => 5 | n => n⟩
theorem Tryd.laysA : Go.Proofs.LaysC.n172 Tryd.prog Tryd.laysA_ren := {
  mixed := by kernel_rfl
  f129 := Tryd.func78.trans (congrArg some (by kernel_rfl))
  f171 := Tryd.func32.trans (congrArg some (by kernel_rfl))
  f172 := Tryd.func31.trans (congrArg some (by kernel_rfl))
  f205 := Tryd.func63.trans (congrArg some (by kernel_rfl))
  f243 := Tryd.func42.trans (congrArg some (by kernel_rfl))
  f244 := Tryd.func40.trans (congrArg some (by kernel_rfl))
  f245 := Tryd.func41.trans (congrArg some (by kernel_rfl))
  f246 := Tryd.func56.trans (congrArg some (by kernel_rfl))
  f247 := Tryd.func51.trans (congrArg some (by kernel_rfl))
  f279 := Tryd.func52.trans (congrArg some (by kernel_rfl))
  f280 := Tryd.func53.trans (congrArg some (by kernel_rfl))
  f281 := Tryd.func54.trans (congrArg some (by kernel_rfl))
  f282 := Tryd.func55.trans (congrArg some (by kernel_rfl))
  f283 := Tryd.func64.trans (congrArg some (by kernel_rfl))
  f284 := Tryd.func65.trans (congrArg some (by kernel_rfl))
  f285 := Tryd.func66.trans (congrArg some (by kernel_rfl))
  f286 := Tryd.func67.trans (congrArg some (by kernel_rfl))
  f287 := Tryd.func61.trans (congrArg some (by kernel_rfl))
  f316 := Tryd.func62.trans (congrArg some (by kernel_rfl))
  f317 := Tryd.func81.trans (congrArg some (by kernel_rfl))
  f318 := Tryd.func82.trans (congrArg some (by kernel_rfl))
  f319 := Tryd.func83.trans (congrArg some (by kernel_rfl))
  f320 := Tryd.func84.trans (congrArg some (by kernel_rfl))
  f321 := Tryd.func79.trans (congrArg some (by kernel_rfl))
  f322 := Tryd.func80.trans (congrArg some (by kernel_rfl))
  f337 := Tryd.func91.trans (congrArg some (by kernel_rfl))
  f338 := Tryd.func92.trans (congrArg some (by kernel_rfl))
  t0 := Tryd.underlying0
  a0 := Tryd.isAgg0
  z0 := Tryd.sizeOf0
  v0 := Tryd.zeroValue0
  t2 := Tryd.underlying2
  a2 := Tryd.isAgg2
  z2 := Tryd.sizeOf2
  v2 := Tryd.zeroValue2
  t3 := Tryd.underlying3
  a3 := Tryd.isAgg3
  z3 := Tryd.sizeOf3
  v3 := Tryd.zeroValue3
  t4 := Tryd.underlying4
  a4 := Tryd.isAgg4
  z4 := Tryd.sizeOf4
  v4 := Tryd.zeroValue4
  t5 := Tryd.underlying5
  a5 := Tryd.isAgg5
  z5 := Tryd.sizeOf5
  v5 := Tryd.zeroValue5
  t9 := Tryd.underlying9
  a9 := Tryd.isAgg9
  z9 := Tryd.sizeOf9
  v9 := Tryd.zeroValue9
  t20 := Tryd.underlying20
  a20 := Tryd.isAgg20
  z20 := Tryd.sizeOf20
  v20 := Tryd.zeroValue20
  t21 := Tryd.underlying21
  a21 := Tryd.isAgg21
  z21 := Tryd.sizeOf21
  v21 := Tryd.zeroValue21
  t37 := Tryd.underlying43
  a37 := Tryd.isAgg43
  z37 := Tryd.sizeOf43
  v37 := Tryd.zeroValue43
  t46 := Tryd.underlying67
  a46 := Tryd.isAgg67
  z46 := Tryd.sizeOf67
  v46 := Tryd.zeroValue67
  t51 := Tryd.underlying90
  a51 := Tryd.isAgg90
  z51 := Tryd.sizeOf90
  v51 := Tryd.zeroValue90
  t53 := Tryd.underlying69
  a53 := Tryd.isAgg69
  z53 := Tryd.sizeOf69
  v53 := Tryd.zeroValue69
  t75 := Tryd.underlying39
  a75 := Tryd.isAgg39
  z75 := Tryd.sizeOf39
  v75 := Tryd.zeroValue39
  t76 := Tryd.underlying40
  a76 := Tryd.isAgg40
  z76 := Tryd.sizeOf40
  v76 := Tryd.zeroValue40
  t85 := Tryd.underlying58
  a85 := Tryd.isAgg58
  z85 := Tryd.sizeOf58
  v85 := Tryd.zeroValue58
  t127 := Tryd.underlying92
  a127 := Tryd.isAgg92
  z127 := Tryd.sizeOf92
  v127 := Tryd.zeroValue92
  t143 := Tryd.underlying93
  a143 := Tryd.isAgg93
  z143 := Tryd.sizeOf93
  v143 := Tryd.zeroValue93
  t145 := Tryd.underlying95
  a145 := Tryd.isAgg95
  z145 := Tryd.sizeOf95
  v145 := Tryd.zeroValue95
  t167 := Tryd.underlying57
  a167 := Tryd.isAgg57
  z167 := Tryd.sizeOf57
  v167 := Tryd.zeroValue57
  t168 := Tryd.underlying60
  a168 := Tryd.isAgg60
  z168 := Tryd.sizeOf60
  v168 := Tryd.zeroValue60
  t171 := Tryd.underlying76
  a171 := Tryd.isAgg76
  z171 := Tryd.sizeOf76
  v171 := Tryd.zeroValue76
  t173 := Tryd.underlying79
  a173 := Tryd.isAgg79
  z173 := Tryd.sizeOf79
  v173 := Tryd.zeroValue79
  t175 := Tryd.underlying70
  a175 := Tryd.isAgg70
  z175 := Tryd.sizeOf70
  v175 := Tryd.zeroValue70
  t210 := Tryd.underlying74
  a210 := Tryd.isAgg74
  z210 := Tryd.sizeOf74
  v210 := Tryd.zeroValue74
  t212 := Tryd.underlying98
  a212 := Tryd.isAgg98
  z212 := Tryd.sizeOf98
  v212 := Tryd.zeroValue98
  t213 := Tryd.underlying99
  a213 := Tryd.isAgg99
  z213 := Tryd.sizeOf99
  t232 := Tryd.underlying109
  a232 := Tryd.isAgg109
  z232 := Tryd.sizeOf109
  v232 := Tryd.zeroValue109
  t233 := Tryd.underlying110
  a233 := Tryd.isAgg110
  z233 := Tryd.sizeOf110
  v233 := Tryd.zeroValue110
  g15 := by kernel_rfl
  g16 := by kernel_rfl
  g17 := by kernel_rfl
  g18 := by kernel_rfl
  g19 := by kernel_rfl
  t80 := Tryd.underlying111
  a80 := Tryd.isAgg111
  z80 := Tryd.sizeOf111
  v80 := Tryd.zeroValue111
  i0 := by kernel_rfl
  i2 := by kernel_rfl
  i3 := by kernel_rfl
  i4 := by kernel_rfl
  i5 := by kernel_rfl
  i9 := by kernel_rfl
  i20 := by kernel_rfl
  i21 := by kernel_rfl
  i37 := by kernel_rfl
  i46 := by kernel_rfl
  i51 := by kernel_rfl
  i53 := by kernel_rfl
  i75 := by kernel_rfl
  i76 := by kernel_rfl
  i80 := by kernel_rfl
  i85 := by kernel_rfl
  i127 := by kernel_rfl
  i143 := by kernel_rfl
  i145 := by kernel_rfl
  i167 := by kernel_rfl
  i168 := by kernel_rfl
  i171 := by kernel_rfl
  i173 := by kernel_rfl
  i175 := by kernel_rfl
  i210 := by kernel_rfl
  i212 := by kernel_rfl
  i232 := by kernel_rfl
  i233 := by kernel_rfl
  m15 := by kernel_rfl
  m16 := by kernel_rfl
  m17 := by kernel_rfl
  m18 := by kernel_rfl
  m19 := by kernel_rfl
  c0 := by kernel_rfl
  c2 := by kernel_rfl
  c3 := by kernel_rfl
  c4 := by kernel_rfl
  c5 := by kernel_rfl
  c9 := by kernel_rfl
  c20 := by kernel_rfl
  c21 := by kernel_rfl
  c37 := by kernel_rfl
  c46 := by kernel_rfl
  c51 := by kernel_rfl
  c53 := by kernel_rfl
  c75 := by kernel_rfl
  c76 := by kernel_rfl
  c80 := by kernel_rfl
  c85 := by kernel_rfl
  c127 := by kernel_rfl
  c143 := by kernel_rfl
  c145 := by kernel_rfl
  c167 := by kernel_rfl
  c168 := by kernel_rfl
  c171 := by kernel_rfl
  c173 := by kernel_rfl
  c175 := by kernel_rfl
  c210 := by kernel_rfl
  c212 := by kernel_rfl
  c213 := by kernel_rfl
  c232 := by kernel_rfl
  c233 := by kernel_rfl }
end Go.Proofs.YtfliennlinngeaaDoor

/- What is taken from the shelf, laid at this program (written by the kit). -/
namespace Go.Proofs.YtfliennlinngeaaDoor
open Go.Shelf
def Tryd.delF_ren : Go.Shelf.Ren := ⟨fun | 10 => 48 | 6 => 60 | n => n, fun | 22 => 31 | 23 => 3 | 25 => 29 | 3 => 3 | 4 => 4 | 0 => 0 | n => n, fun | n => n⟩
theorem Tryd.delF : Go.Proofs.SlLaysH.n10 Tryd.prog Tryd.delF_ren := {
  mixed := by kernel_rfl
  f6 := ⟨Tryd.f60.name, by decide, Tryd.func60.trans (congrArg some (by kernel_rfl))⟩
  f10 := ⟨Tryd.f48.name, by decide, Tryd.func48.trans (congrArg some (by kernel_rfl))⟩
  t0 := Tryd.underlying0
  a0 := Tryd.isAgg0
  z0 := Tryd.sizeOf0
  v0 := Tryd.zeroValue0
  t3 := Tryd.underlying3
  a3 := Tryd.isAgg3
  z3 := Tryd.sizeOf3
  v3 := Tryd.zeroValue3
  t4 := Tryd.underlying4
  a4 := Tryd.isAgg4
  z4 := Tryd.sizeOf4
  v4 := Tryd.zeroValue4
  t22 := Tryd.underlying31
  a22 := Tryd.isAgg31
  z22 := Tryd.sizeOf31
  v22 := Tryd.zeroValue31
  a23 := Tryd.isAgg3
  z23 := Tryd.sizeOf3
  t25 := Tryd.underlying29
  a25 := Tryd.isAgg29
  z25 := Tryd.sizeOf29
  v25 := Tryd.zeroValue29 }
def Tryd.cloN_ren : Go.Shelf.Ren := ⟨fun | 41 => 49 | n => n, fun | 22 => 31 | 23 => 3 | 4 => 4 | n => n, fun | n => n⟩
theorem Tryd.cloN : Go.Proofs.SlLaysE0.n41 Tryd.prog Tryd.cloN_ren := {
  mixed := by kernel_rfl
  f41 := ⟨Tryd.f49.name, by decide, Tryd.func49.trans (congrArg some (by kernel_rfl))⟩
  t4 := Tryd.underlying4
  a4 := Tryd.isAgg4
  z4 := Tryd.sizeOf4
  v4 := Tryd.zeroValue4
  t22 := Tryd.underlying31
  a22 := Tryd.isAgg31
  z22 := Tryd.sizeOf31
  v22 := Tryd.zeroValue31 }
end Go.Proofs.YtfliennlinngeaaDoor

/- The logic of data: made zeros appended to a slice without room that may be nil. -/
namespace Go.Dl
open Go.RowKit
noncomputable section
section
variable {P : Program}

theorem run_append_mk0 (w : World) (t tz ty e : TypeId) (k : IntKind) (i : TypeInfo) (z : Value) (ht : P.underlying t = some (.slice e)) (htz : P.underlying tz = some (.int k)) (hi : P.info? e = some i) (hz : i.zero = some z)
    (A : Option Addr) (n : Nat) (hn0 : 0 < n) (hsz : 0 < i.size) (h63 : n ≤ maxLen) (hfit : Builtin.nextslicecap n 0 * i.bytes ≤ 281474976710656) (hby : n * i.bytes ≤ 281474976710656) :
    (Builtin.append_ #[t, tz] ty #[.slice A 0 0, .int .i64 n]).run P w =
      .ok (.slice (some ⟨w.heap.size, 0, none⟩) n (grownCap w n 0 e))
        (w.drew.alloc (.cells (Builtin.zeroCells z.cells n ++ Builtin.zeroCells z.cells (grownCap w n 0 e - n)) e)) := by
  unfold maxLen at h63
  have hw : IntKind.i64.wrap (n : Int) = (n : Int) := wrap_i64 (by omega) (by omega)
  have hneg : ¬ ((n : Int) < 0) := by omega
  have hbig : ¬ (281474976710656 < (n : Int) * (i.bytes : Int)) := by
    have h := Int.ofNat_le.2 hby
    rw [Int.natCast_mul] at h
    omega
  have h63' : ¬ (9223372036854775807 < (n : Int)) := by omega
  have h48' : ¬ (281474976710656 < Builtin.nextslicecap n 0 * i.bytes) := by omega
  have hne : ¬ (n * i.size = 0) := by
    intro e
    rcases Nat.mul_eq_zero.1 e with h | h <;> omega
  have hne1 : ¬ (n = 0) := by omega
  have hne2 : ¬ (i.size = 0) := by omega
  have hn1 : ¬ (n ≤ 0) := by omega
  cases A with
  | none =>
    simp [Builtin.append_, run_underlying ht, run_underlying htz, sizeOf, typeInfo, zeroValue, hi, hz, asInt, asIntOf, hw, hneg, hbig, h63', h48', Question.forced, newRow, grownCap, hne1, hne2, hn1, Builtin.firstCells]
    intro h; exact absurd h hne
  | some b =>
    have hfo := run_firstCells_some (P := P) w.drew i.size 0 b 0 0 [] (by simp) (by simp)
    simp [Builtin.append_, run_underlying ht, run_underlying htz, sizeOf, typeInfo, zeroValue, hi, hz, asInt, asIntOf, hw, hneg, hbig, h63', h48', Question.forced, hfo, newRow, grownCap, hne1, hne2, hn1]
    intro h; exact absurd h hne

theorem app0_mk {t tz ty : TypeId} {sz by_ : Nat} {kd : IntKind} (hinfo : appInfo P t = some (sz, by_)) (htz : P.underlying tz = some (.int kd)) {X : Origin} {s : DS} {E : Env} {a : Act} {w : World} (hr : RelE X s E a w) {n i m k : Nat} {v : Value}
    (hx : VD w E (.one (.ba n sz i 0 0)) v) (hk : 0 < k) (hb : k * by_ ≤ 140737488355328) (hm : m < s.n) :
    ∃ v' w' E' js, (Builtin.append_ #[t, tz] ty #[v, .int .i64 k]).run P w = .ok v' w' ∧ RowsSz sz js ∧ RelE X (s.newMem m (anyRows k sz ++ js)) E' a w' ∧ VD w' E' (.one (.ba m sz 0 k (k + js.length))) v' := by
  obtain ⟨e, inf, z, hu, hi, hz0, hisz, hiby, hzsz, hpos, hbpos, hz1⟩ := appZ_one w hinfo
  have hmax : k ≤ maxLen := by
    have : k ≤ k * by_ := Nat.le_mul_of_pos_right _ hbpos
    unfold maxLen; omega
  have hold : ∃ A, v = .slice A 0 0 := by
    cases hx with | one t' v hx => cases hx with
      | bz _ _ _ A => exact ⟨A, rfl⟩
      | ba _ _ _ _ _ h1 h2 => exact ⟨_, rfl⟩
  obtain ⟨A, rfl⟩ := hold
  have hroom : 0 < k := hk
  have hrun := run_append_mk0 (P := P) w t tz ty e kd inf z hu htz hi hz0 A k hk (by omega) hmax (by rw [hiby]; exact growslice_fits hroom hb) (by rw [hiby]; omega)
  have hge := grownCap_ge w k 0 e
  have hcm := grownCap_le_maxLen w k 0 e hmax
  generalize grownCap w k 0 e = cap' at hrun hge hcm
  have q0 : Quiet w E w.drew E := ⟨(Below.refl _ _).drew, fun _ _ h => h, fun _ _ _ h => h, hr.wi.kok.move (fun _ _ _ => rfl) (hr.wi.kok.z.below ((Below.refl _ _).drew)), rfl, rfl⟩
  have hq := hr.quiet q0
  have hlat := q0.later hr.wi.kok
  have hZ := zero_lst w.drew E z.cells hz1 (cap' - k)
  have hZk := zero_lst w.drew E z.cells hz1 k
  rw [hzsz] at hZ hZk
  have hall : RowsIs w.drew E (Builtin.zeroCells z.cells k ++ Builtin.zeroCells z.cells (cap' - k)) (anyRows k sz ++ List.replicate (cap' - k) (List.replicate sz (.c .any))) := by
    refine Lst.rowsIs (sz := sz) ?_
    have := hZk.append hZ
    simpa [List.append_assoc, anyRows] using this
  have h2 := hq.newMem m hm _ e _ hall
  refine ⟨_, _, _, List.replicate (cap' - k) (List.replicate sz (.c .any)), hrun, fun r hr' => by rw [List.eq_of_mem_replicate hr']; simp, h2, .one _ _ ?_⟩
  have hc2 : k + (List.replicate (cap' - k) (List.replicate sz (T.c C.any))).length = cap' := by simp; omega
  rw [hc2]
  have := VT.ba (w := w.drew.alloc (.cells (Builtin.zeroCells z.cells k ++ Builtin.zeroCells z.cells (cap' - k)) e)) (E := E.setρ m w.drew.heap.size) m sz 0 k cap' hge hcm
  simp only [Env.setρ, if_true, Nat.zero_mul] at this
  exact this

theorem Step.appendMk0 {o : Oper} {s : DS} {K : DS → Prop} {kd : IntKind} {m n sz by_ i k : Nat} {x y : Operand} {t tz : TypeId} (ho : o.op = .call { callee := .builtin .append, args := #[x, y], argTypes := #[t, tz] }) (hm : o.dst = some m)
    (hinfo : appInfo P t = some (sz, by_)) (htz : P.underlying tz = some (.int kd)) (hx : s.ev x = .one (.ba n sz i 0 0)) (hy : s.ev y = .one (.c (.lit (.int .i64 (k : Int))))) (hk : 0 < k) (hb : k * by_ ≤ 140737488355328)
    (h : ∀ js, RowsSz sz js → K ((s.newMem m (anyRows k sz ++ js)).put (some m) (.one (.ba m sz 0 k (k + js.length))))) : Step P o s K := by
  rintro hd X a w ⟨E, hE⟩ Q
  have hvx := hE.ev x
  rw [hx] at hvx
  have hvy := hE.ev y
  rw [hy] at hvy
  have hy' := hvy.lit
  obtain ⟨v', w', E', js, hrun, hjs, hE', hv'⟩ := app0_mk (P := P) (ty := o.type) hinfo htz hE hvx hk hb (hd m hm)
  obtain ⟨cs, hres⟩ := builtin_resolve (P := P) .append a.eval x y t tz o.type w
  refine wp_run (v := v') (w' := w') ?_ ⟨_, ⟨by rfl, h js hjs⟩, ?_⟩
  · unfold execOp
    simp only [ho, Sem.run_bind]
    rw [hres]
    simp only [Result.andThen_ok, invoke, builtin, Sem.run_bind, hy', hrun, Sem.run_pure]
  · rw [hm]
    exact ⟨E', hE'.putOnly (fun d hd' => by injection hd' with hd'; subst hd'; exact hd m hm) hv'⟩

theorem Step.appendMk0List {o : Oper} {s : DS} {K : DS → Prop} {kd : IntKind} {m n sz by_ i k : Nat} {x y : Operand} {t tz : TypeId} (ho : o.op = .call { callee := .builtin .append, args := #[x, y], argTypes := #[t, tz] }) (hm : o.dst = some m)
    (hinfo : appInfo P t = some (sz, by_)) (htz : P.underlying tz = some (.int kd)) (hx : s.ev x = .one (.ba n sz i 0 0)) (hy : s.ev y = .one (.c (.lit (.int .i64 (k : Int))))) (hk : 0 < k) (hb : k * by_ ≤ 140737488355328)
    (h : ∀ j', K ((s.newMem m (anyRows (k + j') sz)).put (some m) (.one (.ba m sz 0 k (k + j'))))) : Step P o s K := by
  refine Step.weaken (K := fun s' => ∃ js, RowsSz sz js ∧ s' = (s.newMem m (anyRows k sz ++ js)).put (some m) (.one (.ba m sz 0 k (k + js.length)))) ?_ ?_
  · exact Step.appendMk0 ho hm hinfo htz hx hy hk hb fun js hjs => ⟨js, hjs, rfl⟩
  · rintro s' hs' ⟨js, hjs, rfl⟩
    refine ⟨_, sub_junk m sz (xs := Rows.tr (fgt m) (anyRows k sz)) (js := Rows.tr (fgt m) js) ?_ (hjs.tr _), rfl, ?_⟩
    · rw [put_bx', newMem_bx', if_pos rfl, ← Rows.tr_append]
    · have hl : (Rows.tr (fgt m) js).length = js.length := by simp [Rows.tr]
      have hsum : anyRows k sz ++ anyRows js.length sz = anyRows (k + js.length) sz := by simp [anyRows, List.replicate_append_replicate]
      have := h js.length
      have e : ((s.newMem m (anyRows k sz ++ js)).put (some m) (.one (.ba m sz 0 k (k + js.length)))).setBx m (some (Rows.tr (fgt m) (anyRows k sz) ++ anyRows (Rows.tr (fgt m) js).length sz)) =
          (s.newMem m (anyRows (k + js.length) sz)).put (some m) (.one (.ba m sz 0 k (k + js.length))) := by
        rw [hl, ← hsum]
        simp only [DS.newMem, DS.setBx, DS.put, DS.tr]
        congr 1
        funext q
        by_cases hq : q = m
        · simp only [if_pos hq, Rows.tr_append, anyRows_tr]
        · simp only [if_neg hq]
      rw [e]; exact this
end
end
end Go.Dl

/- Entries: data; small functions. -/
namespace Go.Proofs.YtfliennlinngeaaDoor
open Go.Dl
open Go.Dl renaming dw_seq → kA, dw_block → kB, dw_reg → kC, dw_skip → kD, dw_exit → kE, dw_ret → kF, dw_cond → kG, guardC_f → kH, guardC_t → kI, dw_drw → kJ, dw_weaken → kK, sub_kn → kL, sub_ml → kM
open Go.Dl.CallC renaming mk → kN, light → kO
open Go.Dl.LeL renaming of_eq → kP
attribute [local irreducible] DW DCalls ECalls wk IW

abbrev li (n : Int) : C := .lit (.int .i64 n)
abbrev lb (b : Bool) : C := .lit (.bool b)
abbrev dv (c : C) : D := .one (.c c)
abbrev ints (xs : List Int) : List (List C) := xs.map fun x => [li x]
abbrev ls (s : ByteArray) : C := .lit (.string s)

structure Lnk where
  kind : Int
  tgt : Int
deriving DecidableEq
structure Sns where
  gloss : ByteArray
  txt : ByteArray
deriving DecidableEq
structure Phon where
  name : ByteArray
  feat : Int
deriving DecidableEq
structure Ent where
  id : Int
  form : List Int
  cls : Int
  alts : List (List Int)
  main : Int
  senses : List Sns
  links : List Lnk
  refs : List Lnk
deriving DecidableEq

def Lnk.enc (x : Lnk) : List C := [li x.kind, li x.tgt]
def Sns.enc (x : Sns) : List C := [ls x.gloss, ls x.txt]
def Phon.enc (x : Phon) : List C := [ls x.name, li x.feat]
abbrev altC (a : List Int) : List C := [.sl 1 (ints a)]
def Ent.enc (e : Ent) : List C := [li e.id, .sl 1 (ints e.form), li e.cls, .sl 1 (e.alts.map altC), li e.main, .sl 2 (e.senses.map Sns.enc), .sl 2 (e.links.map Lnk.enc), .sl 2 (e.refs.map Lnk.enc)]
def Ent.row (e : Ent) : List T := [.c (li e.id), .c (.sl 1 (ints e.form)), .c (li e.cls), .c (.sl 1 (e.alts.map altC)), .c (li e.main), .c (.sl 2 (e.senses.map Sns.enc)), .c (.sl 2 (e.links.map Lnk.enc)), .c (.sl 2 (e.refs.map Lnk.enc))]
def Lnk.row (x : Lnk) : List T := [.c (li x.kind), .c (li x.tgt)]
def Sns.row (x : Sns) : List T := [.c (ls x.gloss), .c (ls x.txt)]
def invRow (g : List Phon) : List T := [.c (.sl 2 (g.map Phon.enc))]
def noEnt : Ent := ⟨0, [], 0, [], 0, [], [], []⟩

theorem ints_at {xs : List Int} {k : Nat} {x : Int} (h : xs[k]? = some x) : (ints xs)[k]? = some [li x] := by simp [h]
theorem bytesC_at {s : ByteArray} {k : Nat} {b : UInt8} (h : s.data.toList[k]? = some b) : (bytesC s)[k]? = some [.lit (.int .u8 b.toNat)] := by simp [bytesC, h]

theorem bytes_eq (a b : ByteArray) : (a == b) = true ↔ a = b := by
  constructor
  · intro h; cases a; cases b; rw [ByteArray.mk.injEq]; exact eq_of_beq h
  · intro h; subst h; cases a; exact beq_self_eq_true (α := Array UInt8) _
theorem bytes_ne {a b : ByteArray} (h : a ≠ b) : (a == b) = false := by
  cases h2 : (a == b)
  · rfl
  · exact absurd ((bytes_eq a b).1 h2) h

def ident (n : Int) : Bool := decide (1 ≤ n) && decide (n ≤ 1099511627776)

def okRef (r : Lnk) : Bool := ident r.kind && ident r.tgt

def lessL (a b : Lnk) : Bool := decide (a.kind < b.kind) || (a.kind == b.kind && decide (a.tgt < b.tgt))

def segOk (g : List Phon) (n : Int) : Bool := decide (1 ≤ n) && decide (n ≤ (g.length : Int))

def cmpI (a b : Int) : Int := if a < b then -1 else if b < a then 1 else 0

set_option maxRecDepth 10000 in
theorem isNaN_D (a : Int) : DCalls Tryd.prog 90 [dv (li a)] (dv (lb false)) := by
  refine dcalls (N := 6) (rs := [.tmp 2]) (by kernel_rfl) Tryd.func90 rfl rfl rfl (by simp) ?_
  have h : (a != a) = false := by simp
  (repeat' (first | refine kA ?_ | refine kB ?_ | ((first | (refine kC (N := 6) rfl (by kernel_rfl) ?_) | refine kD ?_ | refine kE ?_ | refine kF ?_); simp +decide only [go_sem, h]) | (apply kG; (simp +decide only [go_sem, h]; rfl); all_goals (intro hcnd; first | (exact absurd hcnd (by decide)) | skip))))

def orI : List Int → Int
  | [] => 0
  | x :: l => if x = 0 then orI l else x
end Go.Proofs.YtfliennlinngeaaDoor

/- Iterators of the library: Values over a list of numbers. -/
namespace Go.Proofs.YtfliennlinngeaaDoor.S
open Go.Dl
open Go.Dl renaming dw_seq → kA, dw_block → kB, dw_reg → kC, dw_skip → kD, dw_exit → kE, dw_ret → kF, dw_cond → kG, guardC_f → kH, guardC_t → kI, dw_drw → kJ, dw_weaken → kK, sub_kn → kL, sub_ml → kM
open Go.Dl.CallC renaming mk → kN, light → kO
open Go.Dl.LeL renaming of_eq → kP
attribute [local irreducible] DW DCalls ECalls wk IW

abbrev li (n : Int) : C := .lit (.int .i64 n)
abbrev lb (b : Bool) : C := .lit (.bool b)
abbrev dv (c : C) : D := .one (.c c)
abbrev ints (xs : List Int) : List (List C) := xs.map fun x => [li x]

set_option maxRecDepth 10000 in
set_option maxHeartbeats 2000000 in
theorem values1_S (xs : List Int) (hl : xs.length ≤ maxLen) : SeqD Tryd.prog 45 [dv (.pt [.sl 1 (ints xs)])] (xs.map fun x => [dv (li x)]) := by
  refine seqD_intro (by kernel_rfl) Tryd.func45 rfl rfl (by simp) (by have := NB_big; simp; omega) ?_
  intro n l J hJ hY
  refine iw_seq (iw_pureQ hJ ?_)
  (repeat (first | refine kA ?_ | refine kB ?_ | ((first | (refine kC (N := 16) rfl (by kernel_rfl) ?_) | refine kD ?_ | refine kE ?_); simp +decide only [go_sem])))
  refine iw_block ?_
  refine iw_loop (fun k : Nat => kn 16 [(0, dv (.lit (.func (.yield l) #[] #[]))), (5, dv (.sl 1 (ints xs))), (6, dv (li xs.length)), (7, dv (li k))] noMem) (fun k => some k) (fun k => k ≤ xs.length) (fun k => xs.length - k) 0 (fsub_kn rfl (by simp +decide only [go_sem])) rfl (by omega) ?_
  intro k hk
  refine iw_seq (iw_pureQ hJ ?_)
  (repeat (first | refine kA ?_ | refine kB ?_ | ((first | (refine kC (N := 16) rfl (by kernel_rfl) ?_) | refine kD ?_ | refine kE ?_); simp +decide only [go_sem])))
  refine iw_seq ?_
  refine iw_cond (by simp +decide only [go_sem]; rfl) ?_ ?_
  · intro hc
    have hk' : k < xs.length := by simpa using hc
    refine iw_skip ?_
    simp +decide only [go_sem]
    refine iw_seq ?_
    refine iw_block ?_
    refine iw_seq (iw_pureQ hJ ?_)
    have hx : xs[k]? = some xs[k] := List.getElem?_eq_getElem hk'
    (repeat (first | refine kA ?_ | refine kB ?_ | ((first | (refine kC (N := 16) rfl (by kernel_rfl) ?_) | refine kD ?_ | refine kE ?_); simp +decide only [go_sem, hx])))
    refine iw_seq ?_
    refine iw_region hJ hY 2 rfl (by kernel_rfl) ?_
    simp only [List.take_succ_cons, List.take_zero, List.drop_succ_cons, List.drop_zero, List.map_cons, List.map_nil]
    simp +decide only [go_sem]
    refine ⟨true, rfl, fun h => (by cases h), fun _ => ⟨_, _, _, k, [dv (li xs[k])], rfl, by simp +decide only [go_sem], rfl, by simp [hx], DLeL.of_eq (by simp +decide only [go_sem]), fun b => ?_⟩⟩
    simp +decide only [go_sem]
    cases b
    · refine iw_cond (by simp +decide only [go_sem]; rfl) (fun _ => iw_ret ?_) (fun h => by cases h)
      simp +decide only [go_sem]
      exact .inr rfl
    · refine iw_cond (by simp +decide only [go_sem]; rfl) (fun h => by cases h) (fun _ => iw_skip ?_)
      simp +decide only [go_sem]
      refine iw_pureQ hJ ?_
      have hw := wrap_succ k (by omega)
      (repeat (first | refine kA ?_ | refine kB ?_ | ((first | (refine kC (N := 16) rfl (by kernel_rfl) ?_) | refine kD ?_ | refine kE ?_); simp +decide only [go_sem, hw])))
      exact ⟨k + 1, by omega, by omega, fsub_kn rfl (by simp +decide only [go_sem]), rfl⟩
  · intro hc
    have hk' : k = xs.length := by simp at hc; omega
    refine iw_exit ?_
    simp +decide only [go_sem]
    simp [iterQ, hk']
end Go.Proofs.YtfliennlinngeaaDoor.S

/- Sorted lists of numbers: Values, AppendSeq, Collect, Sort, Sorted. -/
namespace Go.Proofs.YtfliennlinngeaaDoor.S
open Go.Dl
open Go.Dl renaming dw_seq → kA, dw_block → kB, dw_reg → kC, dw_skip → kD, dw_exit → kE, dw_ret → kF, dw_cond → kG, guardC_f → kH, guardC_t → kI, dw_drw → kJ, dw_weaken → kK, sub_kn → kL, sub_ml → kM
open Go.Dl.CallC renaming mk → kN, light → kO
open Go.Dl.LeL renaming of_eq → kP
attribute [local irreducible] DW DCalls ECalls wk IW

set_option maxRecDepth 10000 in
theorem values_D (xs : List Int) : DCalls Tryd.prog 35 [dv (.sl 1 (ints xs))] (dv (.fn 45 [.pt [.sl 1 (ints xs)]])) := by
  refine dcalls (N := 4) (rs := [.tmp 2]) (by kernel_rfl) Tryd.func35 rfl rfl rfl (by simp) ?_
  (repeat (first | refine kA ?_ | refine kB ?_ | ((first | (refine kC (N := 4) rfl (by kernel_rfl) ?_) | refine kD ?_ | refine kE ?_); simp +decide only [go_sem])))
  refine dw_frz1 1 [.sl 1 (ints xs)] (by simp) (by simp +decide only [go_sem]) ?_
  refine kF ?_; simp +decide only [go_sem]

theorem iRows_tr (r : Ren) (xs : List Int) : Dl.Rows.tr r (iRows xs) = iRows xs := by
  simp [iRows, Dl.Rows.tr, T.trAll, T.tr]
theorem iRows_sz (xs : List Int) : RowsSz 1 (iRows xs) := fun r hr => by
  obtain ⟨x, _, rfl⟩ := List.mem_map.1 hr; rfl
theorem iRows_len (xs : List Int) : (iRows xs).length = xs.length := by simp [iRows]
theorem iRows_app (xs ys : List Int) : iRows (xs ++ ys) = iRows xs ++ iRows ys := by simp [iRows]
attribute [go_sem] iRows_tr

set_option maxRecDepth 10000 in
set_option maxHeartbeats 2000000 in
theorem appendSeq_E (xs : List Int) (hl : xs.length ≤ 1000000) : ECalls Tryd.prog 57 [dv (.lit (.slice none 0 0)), dv (.fn 45 [.pt [.sl 1 (ints xs)]])] noMem
    (fun r H' => ∃ j, r = .one (.ba 0 1 0 xs.length (xs.length + j)) ∧ H' = ml [(0, iRows xs ++ anyRows j 1)]) := by
  have hmax : maxLen = 9223372036854775807 := rfl
  refine ecalls (N := 13) (rs := [.tmp 4]) (by kernel_rfl) Tryd.func57 rfl rfl rfl (by simp) ?_
  (repeat (first | refine kA ?_ | refine kB ?_ | ((first | (refine kC (N := 13) rfl (by kernel_rfl) ?_) | refine kD ?_ | refine kE ?_); simp +decide only [go_sem])))
  refine kK (sub_nilAt 2 1 (by simp +decide only [go_sem])) ?_
  refine kK (sub_zeroAt (i := 0) (j := 0) 2 1000 1 1 (rows := [[.ex 1 []]]) (r := [.ex 1 []]) (by simp +decide only [go_sem]) (by decide) rfl rfl) ?_
  refine dw_rfS 13 oneMid [2] (fun k (j : Nat) => kn 13 [(2, .one (.bx 2 1 0 0))] (ml [(2, [[.ba 1000 1 0 k (k + j)]]), (1000, iRows (xs.take k) ++ anyRows j 1)])) (fun k j => True) 0 trivial rfl rfl (by decide) (by simp +decide only [go_sem]; exact ⟨rfl, rfl⟩) (values1_S xs (by omega))
    (kM rfl (by simp +decide only [go_sem]) (by simp +decide only [go_sem])) (fun _ _ => rfl) (by intro ds h; obtain ⟨c, _, rfl⟩ := List.mem_map.1 h; rfl) ?_ ?_
  · intro k ds j hk _
    simp only [List.getElem?_map, Option.map_eq_some_iff] at hk
    obtain ⟨x, hx, rfl⟩ := hk
    have hkl : k < xs.length := (List.getElem?_eq_some_iff.1 hx).1
    have htk : (xs.take k).length = k := by simp; omega
    (repeat (first | refine kA ?_ | refine kB ?_ | ((first | (refine kC (N := 13) rfl (by kernel_rfl) ?_) | refine kD ?_ | refine kE ?_); simp +decide only [go_sem])))
    refine StepC.mk (Step.appendList (n := 1000) (rows := iRows (xs.take k)) (ys := iRows [x]) (j := j) (sz := 1) (by_ := 8) rfl rfl (by simp +decide only [go_sem]) (by simp +decide only [go_sem, iRows_len, htk]) (by simp +decide only [go_sem]) (iRows_sz _) (.ex [[li x]]) (by simp [iRows]; omega) ?_)
    intro j'
    simp +decide only [go_sem, iRows_len, htk]
    (repeat (first | refine kA ?_ | refine kB ?_ | ((first | (refine kC (N := 13) rfl (by kernel_rfl) ?_) | refine kD ?_ | refine kE ?_); simp +decide only [go_sem])))
    refine ⟨_, sub_mv 11 1000 (by decide), ?_⟩
    refine ⟨j', kM rfl (by simp +decide only [go_sem]) (by simp +decide only [go_sem]; rw [take_snoc hx, iRows_app, List.append_assoc])⟩
  · intro j _
    rw [List.length_map, List.take_length]
    (repeat (first | refine kA ?_ | refine kB ?_ | ((first | (refine kC (N := 13) rfl (by kernel_rfl) ?_) | refine kD ?_ | refine kE ?_); simp +decide only [go_sem])))
    refine kK (DS.Sub.trans (sub_mv 1000 0 (by decide)) (kM (N := 13) (sls := [(4, .one (.ba 0 1 0 xs.length (xs.length + j)))]) (bxs := [(0, iRows xs ++ anyRows j 1)]) rfl (by simp +decide only [go_sem]) (by simp +decide only [go_sem]))) ?_
    refine kF ?_; simp +decide only [go_sem]
    exact ⟨j, rfl, rfl⟩

set_option maxRecDepth 10000 in
set_option maxHeartbeats 2000000 in
theorem collect_E (xs : List Int) (hl : xs.length ≤ 1000000) : ECalls Tryd.prog 43 [dv (.fn 45 [.pt [.sl 1 (ints xs)]])] noMem
    (fun r H' => ∃ j, r = .one (.ba 0 1 0 xs.length (xs.length + j)) ∧ H' = ml [(0, iRows xs ++ anyRows j 1)]) := by
  refine ecalls (N := 5) (rs := [.tmp 2]) (by kernel_rfl) Tryd.func43 rfl rfl rfl (by simp) ?_
  (repeat (first | refine kA ?_ | refine kB ?_ | ((first | (refine kC (N := 5) rfl (by kernel_rfl) ?_) | refine kD ?_ | refine kE ?_); simp +decide only [go_sem])))
  refine CallC.eff [] (appendSeq_E xs hl) rfl (DLeL.of_eq (by simp +decide only [go_sem])) (fun k r h => by cases h) (by constructor <;> simp) ?_
  rintro r H' ⟨j, rfl, rfl⟩
  simp +decide only [go_sem]
  refine kK (DS.Sub.trans (sub_mv 4 0 (by decide)) (kM (N := 5) (sls := [(2, .one (.ba 0 1 0 xs.length (xs.length + j)))]) (bxs := [(0, iRows xs ++ anyRows j 1)]) rfl (by simp +decide only [go_sem]) (by simp +decide only [go_sem, callMemAft]))) ?_
  refine kF ?_; simp +decide only [go_sem]
  exact ⟨j, rfl, rfl⟩

theorem sortI_E (q cap : Nat) (H : Mem) (xs : List Int) (js : Dl.Rows) (hq : H q = some (iRows xs ++ js)) (hjs : RowsSz 1 js) (hl : xs.length < 4611686018427387904) :
    ECalls Tryd.prog 44 [.one (.ba q 1 0 xs.length cap)] H (fun r H' => r = .tup [] ∧ H' = fun k => if k = q then some (iRows (xs.mergeSort fun x y => decide (x ≤ y)) ++ js) else H k) :=
  sort_E (by kernel_rfl) (AnyM.slices_Sort_int sortA) (AnyM.slices_Sort_int_none sortA) q cap H xs js hq hjs hl

abbrev srt (xs : List Int) : List Int := xs.mergeSort fun x y => decide (x ≤ y)
theorem srt_len (xs : List Int) : (srt xs).length = xs.length := List.length_mergeSort _

set_option maxRecDepth 10000 in
set_option maxHeartbeats 2000000 in
theorem sortedS_E (xs : List Int) (hl : xs.length ≤ 1000000) : ECalls Tryd.prog 34 [dv (.fn 45 [.pt [.sl 1 (ints xs)]])] noMem
    (fun r H' => ∃ j, r = .one (.ba 0 1 0 xs.length (xs.length + j)) ∧ H' = ml [(0, iRows (srt xs) ++ anyRows j 1)]) := by
  refine ecalls (N := 9) (rs := [.tmp 2]) (by kernel_rfl) Tryd.func34 rfl rfl rfl (by simp) ?_
  (repeat (first | refine kA ?_ | refine kB ?_ | ((first | (refine kC (N := 9) rfl (by kernel_rfl) ?_) | refine kD ?_ | refine kE ?_); simp +decide only [go_sem])))
  refine CallC.eff [] (collect_E xs hl) rfl (DLeL.of_eq (by simp +decide only [go_sem])) (fun k r h => by cases h) (by constructor <;> simp) ?_
  rintro r H' ⟨j, rfl, rfl⟩
  simp +decide only [go_sem]
  (repeat (first | refine kA ?_ | refine kB ?_ | ((first | (refine kC (N := 9) rfl (by kernel_rfl) ?_) | refine kD ?_ | refine kE ?_); simp +decide only [go_sem])))
  refine CallC.eff [5] (sortI_E (5 + NB) (xs.length + j) (fun k => if k = 5 + NB then some (iRows xs ++ anyRows j 1) else none) xs (anyRows j 1) (by simp) (anyRows_sz j 1) (by omega)) rfl (DLeL.of_eq (by simp +decide only [go_sem])) (fun k r h => ?_) (by constructor <;> simp [mid]) ?_
  · by_cases hk : k = 5 + NB
    · subst hk; simp +decide only [go_sem] at h; subst h; simp +decide only [go_sem, callMemAft, callMem]
    · simp +decide only [go_sem, hk] at h
  rintro r H' ⟨rfl, rfl⟩
  simp +decide only [go_sem]
  (repeat (first | refine kA ?_ | refine kB ?_ | ((first | (refine kC (N := 9) rfl (by kernel_rfl) ?_) | refine kD ?_ | refine kE ?_); simp +decide only [go_sem])))
  refine kK (DS.Sub.trans (sub_mv 5 0 (by decide)) (kM (N := 9) (sls := [(2, .one (.ba 0 1 0 xs.length (xs.length + j)))]) (bxs := [(0, iRows (srt xs) ++ anyRows j 1)]) rfl (by simp +decide only [go_sem]) (by simp +decide only [go_sem, callMemAft]))) ?_
  refine kF ?_; simp +decide only [go_sem]
  exact ⟨j, rfl, rfl⟩
end Go.Proofs.YtfliennlinngeaaDoor.S

namespace Go.Proofs.YtfliennlinngeaaDoor
abbrev kpm0 : List (Nat × Go.Dl.Mode) := [(0, .light), (1, .light), (2, .light), (3, .light), (4, .light), (5, .light), (6, .light), (7, .light), (8, .light), (9, .light)]
end Go.Proofs.YtfliennlinngeaaDoor
/- Lists of numbers without neighbours that are alike: Compact. -/
namespace Go.Proofs.YtfliennlinngeaaDoor.S
open Go.Dl
open Go.Dl renaming dw_seq → kA, dw_block → kB, dw_reg → kC, dw_skip → kD, dw_exit → kE, dw_ret → kF, dw_cond → kG, guardC_f → kH, guardC_t → kI, dw_drw → kJ, dw_weaken → kK, sub_kn → kL, sub_ml → kM
open Go.Dl.CallC renaming mk → kN, light → kO
open Go.Dl.LeL renaming of_eq → kP
attribute [local irreducible] DW DCalls ECalls wk IW

def cptF (p : Option Int) : List Int → List Int
  | [] => []
  | x :: r => if p = some x then cptF (some x) r else x :: cptF (some x) r
def cpt (xs : List Int) : List Int := cptF none xs

theorem cptF_snoc (x : Int) : ∀ (l : List Int) (p : Option Int), cptF p (l ++ [x]) = cptF p l ++ if (l.getLast?.or p) = some x then [] else [x]
  | [], p => by by_cases h : p = some x <;> simp [cptF, h]
  | y :: l, p => by
    simp only [List.cons_append, cptF]
    have hl : ((y :: l).getLast?.or p) = (l.getLast?.or (some y)) := by cases l <;> simp [List.getLast?_cons]
    rw [hl]
    split
    · exact cptF_snoc x l (some y)
    · rw [cptF_snoc x l (some y)]; rfl

theorem cpt_take {xs : List Int} {k : Nat} {x y : Int} (hx : xs[k + 1]? = some x) (hy : xs[k]? = some y) : cpt (xs.take (k + 2)) = cpt (xs.take (k + 1)) ++ if y = x then [] else [x] := by
  have h1 : xs.take (k + 2) = xs.take (k + 1) ++ [x] := take_snoc hx
  have h2 : (xs.take (k + 1)).getLast? = some y := by rw [take_snoc hy]; simp
  rw [cpt, h1, cptF_snoc, h2]; simp [cpt]

theorem cptF_len : ∀ (l : List Int) (p : Option Int), (cptF p l).length ≤ l.length
  | [], p => by simp [cptF]
  | x :: l, p => by
    simp only [cptF]
    split
    · have := cptF_len l (some x); simp; omega
    · have := cptF_len l (some x); simp; omega

theorem cpt_all {xs : List Int} {k : Nat} (h : ∀ i x y, i + 1 < k → xs[i]? = some x → xs[i + 1]? = some y → x ≠ y) (hk : k ≤ xs.length) : cpt (xs.take k) = xs.take k := by
  induction k with
  | zero => simp [cpt, cptF]
  | succ k ih =>
    have ih' := ih (fun i x y hi => h i x y (by omega)) (by omega)
    cases k with
    | zero =>
      cases xs with
      | nil => simp [cpt, cptF]
      | cons x xs => simp [cpt, cptF]
    | succ k =>
      have h1 : xs[k + 1]? = some xs[k + 1] := List.getElem?_eq_getElem (by omega)
      have h0 : xs[k]? = some xs[k] := List.getElem?_eq_getElem (by omega)
      rw [cpt_take h1 h0, if_neg (h k _ _ (by omega) h0 h1), ih', ← take_snoc h1]

theorem iRows_at {zs : List Int} {js : Dl.Rows} {i : Nat} {x : Int} (h : zs[i]? = some x) : (iRows zs ++ js)[i]? = some [T.c (li x)] := by
  rw [List.getElem?_append_left (by rw [iRows_len]; exact (List.getElem?_eq_some_iff.1 h).1)]; exact iRows_get h
theorem iRows_set {zs : List Int} {js : Dl.Rows} {i : Nat} {x : Int} (h : i < zs.length) : (iRows zs ++ js).set i [T.c (li x)] = iRows (zs.set i x) ++ js := by
  rw [List.set_append_left _ _ (by rw [iRows_len]; exact h)]
  simp [iRows, List.map_set]

set_option maxRecDepth 10000 in
set_option maxHeartbeats 2000000 in
theorem compact_E (xs : List Int) (j q : Nat) (hq : NB ≤ q) (hl : xs.length ≤ 1000000) : ECalls Tryd.prog 33 [.one (.ba q 1 0 xs.length (xs.length + j))] (ml [(q, iRows xs ++ anyRows j 1)])
    (fun r H' => ∃ j', r = .one (.ba q 1 0 (cpt xs).length (xs.length + j)) ∧ H' = ml [(q, iRows (cpt xs) ++ anyRows j' 1)]) := by
  have hmax : maxLen = 9223372036854775807 := rfl
  have h64 : ∀ z : Int, -1 ≤ z → z ≤ 10000000 → IntKind.wrap .i64 z = z := fun z h1 h2 => wrap_i64 (by omega) (by omega)
  refine ecalls (N := 61) (rs := [.tmp 2]) (by kernel_rfl) Tryd.func33 rfl rfl rfl (by simp) ?_
  (repeat (first | refine kA ?_ | refine kB ?_ | ((first | (refine kC (N := 61) rfl (by kernel_rfl) ?_) | (apply kJ (id := 6) (N := 61) kpm0; kernel_rfl; rfl; kernel_rfl; (repeat (first | exact Picks.nil | (apply Picks.cons; rfl)))) | (apply kJ (id := 11) (N := 61) kpm0; kernel_rfl; rfl; kernel_rfl; (repeat (first | exact Picks.nil | (apply Picks.cons; rfl)))) | refine kD ?_ | refine kE ?_); simp +decide only [go_sem])))
  apply kG; (simp +decide only [go_sem]; rfl)
  · intro hc
    have hs : cpt xs = xs := by
      have := cpt_all (xs := xs) (k := xs.length) (fun i x y hi => by simp at hc; omega) (Nat.le_refl _)
      rwa [List.take_length] at this
    (repeat (first | refine kA ?_ | refine kB ?_ | ((first | (refine kC (N := 61) rfl (by kernel_rfl) ?_) | (apply kJ (id := 6) (N := 61) kpm0; kernel_rfl; rfl; kernel_rfl; (repeat (first | exact Picks.nil | (apply Picks.cons; rfl)))) | (apply kJ (id := 11) (N := 61) kpm0; kernel_rfl; rfl; kernel_rfl; (repeat (first | exact Picks.nil | (apply Picks.cons; rfl)))) | refine kD ?_ | refine kE ?_); simp +decide only [go_sem])))
    refine kK (kM (N := 61) (sls := [(2, .one (.ba q 1 0 xs.length (xs.length + j)))]) (bxs := [(q, iRows xs ++ anyRows j 1)]) rfl (by simp +decide only [go_sem]) (by simp +decide only [go_sem])) ?_
    refine kF ?_; simp +decide only [go_sem]
    exact ⟨j, by rw [hs], by rw [hs]; rfl⟩
  · intro hc
    have hc2 : 2 ≤ xs.length := by simp at hc; omega
    (repeat (first | refine kA ?_ | refine kB ?_ | ((first | (refine kC (N := 61) rfl (by kernel_rfl) ?_) | (apply kJ (id := 6) (N := 61) kpm0; kernel_rfl; rfl; kernel_rfl; (repeat (first | exact Picks.nil | (apply Picks.cons; rfl)))) | (apply kJ (id := 11) (N := 61) kpm0; kernel_rfl; rfl; kernel_rfl; (repeat (first | exact Picks.nil | (apply Picks.cons; rfl)))) | refine kD ?_ | refine kE ?_); simp +decide only [go_sem])))
    refine dw_loop_fam (fun m : Nat => kn 61 [(0, .one (.ba q 1 0 xs.length (xs.length + j))), (3, dv (li m))] (ml [(q, iRows xs ++ anyRows j 1)]))
      (fun m => 1 ≤ m ∧ m ≤ xs.length ∧ ∀ i x y, i + 1 < m → xs[i]? = some x → xs[i + 1]? = some y → x ≠ y) (fun k => xs.length - k) 1 (kM rfl (by simp +decide only [go_sem]) (by simp +decide only [go_sem])) ⟨by omega, by omega, fun i x y hi => by omega⟩ ?_
    rintro m ⟨hm1, hm, hall⟩
    (repeat (first | refine kA ?_ | refine kB ?_ | ((first | (refine kC (N := 61) rfl (by kernel_rfl) ?_) | (apply kJ (id := 6) (N := 61) kpm0; kernel_rfl; rfl; kernel_rfl; (repeat (first | exact Picks.nil | (apply Picks.cons; rfl)))) | (apply kJ (id := 11) (N := 61) kpm0; kernel_rfl; rfl; kernel_rfl; (repeat (first | exact Picks.nil | (apply Picks.cons; rfl)))) | refine kD ?_ | refine kE ?_); simp +decide only [go_sem])))
    apply kG; (simp +decide only [go_sem]; rfl)
    · intro h1
      have hk' : m < xs.length := by simp at h1; omega
      have hx : xs[m]? = some xs[m] := List.getElem?_eq_getElem hk'
      have hkl : m - 1 < xs.length := by omega
      have hy : xs[m - 1]? = some xs[m - 1] := List.getElem?_eq_getElem hkl
      have hw : IntKind.wrap .i64 ((m : Int) - 1) = ((m - 1 : Nat) : Int) := by rw [h64 _ (by omega) (by omega)]; omega
      have hRx := iRows_at (js := anyRows j 1) hx
      have hRy := iRows_at (js := anyRows j 1) hy
      (repeat (first | refine kA ?_ | refine kB ?_ | ((first | (refine kC (N := 61) rfl (by kernel_rfl) ?_) | (apply kJ (id := 6) (N := 61) kpm0; kernel_rfl; rfl; kernel_rfl; (repeat (first | exact Picks.nil | (apply Picks.cons; rfl)))) | (apply kJ (id := 11) (N := 61) kpm0; kernel_rfl; rfl; kernel_rfl; (repeat (first | exact Picks.nil | (apply Picks.cons; rfl)))) | refine kD ?_ | refine kE ?_); simp +decide only [go_sem, hw, hRx, hRy, hk', hkl])))
      apply kG; (simp +decide only [go_sem]; rfl)
      · intro h2
        have hle : xs.length ≤ xs.length + j := by omega
        (repeat (first | refine kA ?_ | refine kB ?_ | ((first | (refine kC (N := 61) rfl (by kernel_rfl) ?_) | (apply kJ (id := 6) (N := 61) kpm0; kernel_rfl; rfl; kernel_rfl; (repeat (first | exact Picks.nil | (apply Picks.cons; rfl)))) | (apply kJ (id := 11) (N := 61) kpm0; kernel_rfl; rfl; kernel_rfl; (repeat (first | exact Picks.nil | (apply Picks.cons; rfl)))) | refine kD ?_ | refine kE ?_); simp +decide only [go_sem, hm, hle])))
        have hxy : xs[m - 1] = xs[m] := by simp at h2; exact h2.symm
        have hc1 : cpt (xs.take (m + 1)) = xs.take m := by
          obtain ⟨k, rfl⟩ : ∃ k, m = k + 1 := ⟨m - 1, by omega⟩
          rw [cpt_take hx hy, if_pos (by simpa using hxy), List.append_nil, cpt_all hall hm]
        refine dw_loop_fam (fun d : Nat => kn 61 [(0, .one (.ba q 1 0 xs.length (xs.length + j))), (3, dv (li (cpt (xs.take (m + d))).length)), (4, .one (.ba q 1 m (xs.length - m) (xs.length + j - m))), (5, dv (li d))] (ml [(q, iRows (cpt (xs.take (m + d)) ++ xs.drop (cpt (xs.take (m + d))).length) ++ anyRows j 1)]))
          (fun d => 1 ≤ d ∧ m + d ≤ xs.length ∧ (cpt (xs.take (m + d))).length < m + d) (fun d => xs.length - d) 1 (kM rfl (by simp +decide only [go_sem, hc1, List.length_take, Nat.min_eq_left hm]) (by simp +decide only [go_sem, hc1, List.length_take, Nat.min_eq_left hm, List.take_append_drop])) ⟨by omega, by omega, by rw [hc1]; simp; omega⟩ ?_
        rintro d ⟨hd1, hd, hdl⟩
        obtain ⟨C, hC⟩ : ∃ C, C = cpt (xs.take (m + d)) := ⟨_, rfl⟩
        rw [← hC] at hdl ⊢
        (repeat (first | refine kA ?_ | refine kB ?_ | ((first | (refine kC (N := 61) rfl (by kernel_rfl) ?_) | (apply kJ (id := 6) (N := 61) kpm0; kernel_rfl; rfl; kernel_rfl; (repeat (first | exact Picks.nil | (apply Picks.cons; rfl)))) | (apply kJ (id := 11) (N := 61) kpm0; kernel_rfl; rfl; kernel_rfl; (repeat (first | exact Picks.nil | (apply Picks.cons; rfl)))) | refine kD ?_ | refine kE ?_); simp +decide only [go_sem])))
        apply kG; (simp +decide only [go_sem]; rfl)
        · intro h3
          have hmd : m + d < xs.length := by simp at h3; omega
          have hZ : ∀ i (h : i < xs.length), C.length ≤ i → (iRows (C ++ xs.drop C.length) ++ anyRows j 1)[i]? = some [T.c (li xs[i])] := fun i h hi => iRows_at (by
            rw [List.getElem?_append_right hi, List.getElem?_drop, show C.length + (i - C.length) = i by omega, List.getElem?_eq_getElem h])
          have hm1d : m + d - 1 < xs.length := by omega
          have hZ1 := hZ (m + d) hmd (by omega)
          have hZ2 := hZ (m + d - 1) hm1d (by omega)
          have hw2 : IntKind.wrap .i64 ((d : Int) - 1) = ((d - 1 : Nat) : Int) := by rw [h64 _ (by omega) (by omega)]; omega
          have hw3 : IntKind.wrap .i64 ((d : Int) + 1) = ((d + 1 : Nat) : Int) := by rw [h64 _ (by omega) (by omega)]; omega
          have hw4 : IntKind.wrap .i64 ((C.length : Int) + 1) = ((C.length + 1 : Nat) : Int) := by rw [h64 _ (by omega) (by omega)]; omega
          have hdm : m + (d - 1) = m + d - 1 := by omega
          have hdn : d < xs.length - m := by omega
          have hdn1 : d - 1 < xs.length - m := by omega
          have hCn : C.length < xs.length := by omega
          (repeat (first | refine kA ?_ | refine kB ?_ | ((first | (refine kC (N := 61) rfl (by kernel_rfl) ?_) | (apply kJ (id := 6) (N := 61) kpm0; kernel_rfl; rfl; kernel_rfl; (repeat (first | exact Picks.nil | (apply Picks.cons; rfl)))) | (apply kJ (id := 11) (N := 61) kpm0; kernel_rfl; rfl; kernel_rfl; (repeat (first | exact Picks.nil | (apply Picks.cons; rfl)))) | refine kD ?_ | refine kE ?_); simp +decide only [go_sem, hw2, hdm, hZ1, hZ2, hdn, hdn1])))
          have hstep : cpt (xs.take (m + (d + 1))) = C ++ if xs[m + d - 1] = xs[m + d] then [] else [xs[m + d]] := by
            rw [hC, show m + (d + 1) = (m + d - 1) + 2 by omega]
            have e1 : (m + d - 1) + 1 = m + d := by omega
            rw [cpt_take (k := m + d - 1) (x := xs[m + d]) (y := xs[m + d - 1]) (by rw [e1]; exact List.getElem?_eq_getElem hmd) (List.getElem?_eq_getElem hm1d), e1]
          apply kG; (simp +decide only [go_sem]; rfl)
          · intro h4
            have hne : ¬ xs[m + d - 1] = xs[m + d] := by simp at h4; exact fun e => h4 e.symm
            rw [if_neg hne] at hstep
            have hZC : (iRows (C ++ xs.drop C.length) ++ anyRows j 1)[C.length]? = some [T.c (li xs[C.length])] := hZ _ hCn (Nat.le_refl _)
            have hset : (iRows (C ++ xs.drop C.length) ++ anyRows j 1).set C.length [T.c (li xs[m + d])] = iRows ((C ++ [xs[m + d]]) ++ xs.drop (C.length + 1)) ++ anyRows j 1 := by
              rw [iRows_set (by simp; omega)]
              congr 2
              rw [List.set_append_right _ _ (Nat.le_refl _), List.drop_eq_getElem_cons hCn, Nat.sub_self, List.set_cons_zero, List.append_assoc]; rfl
            (repeat (first | refine kA ?_ | refine kB ?_ | ((first | (refine kC (N := 61) rfl (by kernel_rfl) ?_) | (apply kJ (id := 6) (N := 61) kpm0; kernel_rfl; rfl; kernel_rfl; (repeat (first | exact Picks.nil | (apply Picks.cons; rfl)))) | (apply kJ (id := 11) (N := 61) kpm0; kernel_rfl; rfl; kernel_rfl; (repeat (first | exact Picks.nil | (apply Picks.cons; rfl)))) | refine kD ?_ | refine kE ?_); simp +decide only [go_sem, hw2, hdm, hZ1, hZ2, hdn, hdn1, hZC, hset, hw3, hw4, hCn])))
            refine ⟨d + 1, ⟨by omega, by omega, by rw [hstep]; simp; omega⟩, by omega, kM rfl (by simp +decide only [go_sem, hstep, List.length_append]) (by simp +decide only [go_sem, hstep, List.length_append])⟩
          · intro h4
            have heq : xs[m + d - 1] = xs[m + d] := by simp at h4; exact h4.symm
            rw [if_pos heq, List.append_nil] at hstep
            refine kD ?_
            simp +decide only [go_sem]
            (repeat (first | refine kA ?_ | refine kB ?_ | ((first | (refine kC (N := 61) rfl (by kernel_rfl) ?_) | (apply kJ (id := 6) (N := 61) kpm0; kernel_rfl; rfl; kernel_rfl; (repeat (first | exact Picks.nil | (apply Picks.cons; rfl)))) | (apply kJ (id := 11) (N := 61) kpm0; kernel_rfl; rfl; kernel_rfl; (repeat (first | exact Picks.nil | (apply Picks.cons; rfl)))) | refine kD ?_ | refine kE ?_); simp +decide only [go_sem, hw3])))
            refine ⟨d + 1, ⟨by omega, by omega, by rw [hstep]; omega⟩, by omega, kM rfl (by simp +decide only [go_sem, hstep]) (by simp +decide only [go_sem, hstep])⟩
        · intro h3
          have hmd : m + d = xs.length := by simp at h3; omega
          rw [hmd, List.take_length] at hC
          have hCn : C.length ≤ xs.length := by omega
          have hCj : C.length ≤ xs.length + j := by omega
          have hCj0 := Nat.zero_le C.length
          (repeat (first | refine kA ?_ | refine kB ?_ | ((first | (refine kC (N := 61) rfl (by kernel_rfl) ?_) | (apply kJ (id := 6) (N := 61) kpm0; kernel_rfl; rfl; kernel_rfl; (repeat (first | exact Picks.nil | (apply Picks.cons; rfl)))) | (apply kJ (id := 11) (N := 61) kpm0; kernel_rfl; rfl; kernel_rfl; (repeat (first | exact Picks.nil | (apply Picks.cons; rfl)))) | refine kD ?_ | refine kE ?_); simp +decide only [go_sem, hCn, hle])))
          have hrl : (iRows (C ++ xs.drop C.length)).length = xs.length := by rw [iRows_len]; simp; omega
          refine StepC.mk (Step.clear (n := q) (rows := iRows (C ++ xs.drop C.length) ++ anyRows j 1) (i := C.length) (len := xs.length - C.length) (cap := xs.length + j - C.length) (sz := 1) (by_ := 8) rfl (by simp +decide only [go_sem]) (by simp +decide only [go_sem]) (by simp +decide only [go_sem]) (by rw [List.length_append, hrl]; omega)
            (fun r hr => (List.mem_append.1 hr).elim (iRows_sz _ r) (anyRows_sz j 1 r)) ?_)
          have hrows : (iRows (C ++ xs.drop C.length) ++ anyRows j 1).take C.length ++ (anyRows (xs.length - C.length) 1 ++ (iRows (C ++ xs.drop C.length) ++ anyRows j 1).drop (C.length + (xs.length - C.length))) = iRows C ++ anyRows (xs.length - C.length + j) 1 := by
            rw [show C.length + (xs.length - C.length) = (iRows (C ++ xs.drop C.length)).length by rw [hrl]; omega, List.drop_left, iRows_app, List.append_assoc, List.take_left' (iRows_len C)]
            congr 1
            simp [anyRows, List.replicate_append_replicate]
          rw [hrows]
          simp +decide only [go_sem]
          (repeat (first | refine kA ?_ | refine kB ?_ | ((first | (refine kC (N := 61) rfl (by kernel_rfl) ?_) | (apply kJ (id := 6) (N := 61) kpm0; kernel_rfl; rfl; kernel_rfl; (repeat (first | exact Picks.nil | (apply Picks.cons; rfl)))) | (apply kJ (id := 11) (N := 61) kpm0; kernel_rfl; rfl; kernel_rfl; (repeat (first | exact Picks.nil | (apply Picks.cons; rfl)))) | refine kD ?_ | refine kE ?_); simp +decide only [go_sem, hCj, hCj0, Nat.sub_zero])))
          refine kK (kM (N := 61) (sls := [(2, .one (.ba q 1 0 C.length (xs.length + j)))]) (bxs := [(q, iRows C ++ anyRows (xs.length - C.length + j) 1)]) rfl (by simp +decide only [go_sem]) (by simp +decide only [go_sem])) ?_
          refine kF ?_; simp +decide only [go_sem]
          exact ⟨_, by rw [hC], by rw [hC]; rfl⟩
      · intro h2
        have hne : ¬ xs[m - 1] = xs[m] := by simp at h2; exact fun e => h2 e.symm
        have hw3 : IntKind.wrap .i64 ((m : Int) + 1) = ((m + 1 : Nat) : Int) := by rw [h64 _ (by omega) (by omega)]; omega
        refine kD ?_
        simp +decide only [go_sem]
        (repeat (first | refine kA ?_ | refine kB ?_ | ((first | (refine kC (N := 61) rfl (by kernel_rfl) ?_) | (apply kJ (id := 6) (N := 61) kpm0; kernel_rfl; rfl; kernel_rfl; (repeat (first | exact Picks.nil | (apply Picks.cons; rfl)))) | (apply kJ (id := 11) (N := 61) kpm0; kernel_rfl; rfl; kernel_rfl; (repeat (first | exact Picks.nil | (apply Picks.cons; rfl)))) | refine kD ?_ | refine kE ?_); simp +decide only [go_sem, hw3])))
        refine ⟨m + 1, ⟨by omega, by omega, fun i x y hi g1 g2 => ?_⟩, by omega, kM rfl (by simp +decide only [go_sem]) (by simp +decide only [go_sem])⟩
        rcases Nat.lt_or_ge (i + 1) m with hlt | hge
        · exact hall i x y hlt g1 g2
        · obtain rfl : i = m - 1 := by omega
          rw [hy] at g1; rw [show m - 1 + 1 = m by omega, hx] at g2
          injection g1 with g1; injection g2 with g2
          rw [← g1, ← g2]; exact hne
    · intro h1
      have hmn : m = xs.length := by simp at h1; omega
      have hs : cpt xs = xs := by
        have := cpt_all hall hm
        rwa [hmn, List.take_length] at this
      (repeat (first | refine kA ?_ | refine kB ?_ | ((first | (refine kC (N := 61) rfl (by kernel_rfl) ?_) | (apply kJ (id := 6) (N := 61) kpm0; kernel_rfl; rfl; kernel_rfl; (repeat (first | exact Picks.nil | (apply Picks.cons; rfl)))) | (apply kJ (id := 11) (N := 61) kpm0; kernel_rfl; rfl; kernel_rfl; (repeat (first | exact Picks.nil | (apply Picks.cons; rfl)))) | refine kD ?_ | refine kE ?_); simp +decide only [go_sem])))
      refine kK (kM (N := 61) (sls := [(2, .one (.ba q 1 0 xs.length (xs.length + j)))]) (bxs := [(q, iRows xs ++ anyRows j 1)]) rfl (by simp +decide only [go_sem]) (by simp +decide only [go_sem])) ?_
      refine kF ?_; simp +decide only [go_sem]
      exact ⟨j, by rw [hs], by rw [hs]; rfl⟩
end Go.Proofs.YtfliennlinngeaaDoor.S

/- num.Sorted. -/
namespace Go.Proofs.YtfliennlinngeaaDoor.S
open Go.Dl
open Go.Dl renaming dw_seq → kA, dw_block → kB, dw_reg → kC, dw_skip → kD, dw_exit → kE, dw_ret → kF, dw_cond → kG, guardC_f → kH, guardC_t → kI, dw_drw → kJ, dw_weaken → kK, sub_kn → kL, sub_ml → kM
open Go.Dl.CallC renaming mk → kN, light → kO
open Go.Dl.LeL renaming of_eq → kP
attribute [local irreducible] DW DCalls ECalls wk IW

def usort (xs : List Int) : List Int := cpt (srt xs)

theorem usort_len (xs : List Int) : (usort xs).length ≤ xs.length := by
  have := cptF_len (srt xs) none
  rw [srt_len] at this; exact this

theorem ints_c (xs : List Int) : (ints xs).map (List.map T.c) = iRows xs := by simp [iRows]

set_option maxRecDepth 10000 in
set_option maxHeartbeats 2000000 in
theorem sorted_D (xs : List Int) (hl : xs.length ≤ 1000000) : DCalls Tryd.prog 20 [dv (.sl 1 (ints xs))] (dv (.sl 1 (ints (usort xs)))) := by
  refine dcalls (N := 7) (rs := [.tmp 2]) (by kernel_rfl) Tryd.func20 rfl rfl rfl (by simp) ?_
  (repeat (first | refine kA ?_ | refine kB ?_ | ((first | (refine kC (N := 7) rfl (by kernel_rfl) ?_) | refine kD ?_ | refine kE ?_); simp +decide only [go_sem])))
  (first | (refine kN (values_D xs) (kP rfl) ?_) | (refine kO (values_D xs) (kP rfl) ?_)); simp +decide only [go_sem]
  refine CallC.eff [] (sortedS_E xs hl) rfl (DLeL.of_eq (by simp +decide only [go_sem])) (fun k r h => by cases h) (by constructor <;> simp) ?_
  rintro r H' ⟨j, rfl, rfl⟩
  simp +decide only [go_sem]
  have hsl := srt_len xs
  refine CallC.eff [5] (compact_E (srt xs) j (5 + NB) (Nat.le_add_left _ _) (by omega)) rfl (DLeL.of_eq (by simp +decide only [go_sem, hsl])) (fun k r h => ?_) (by constructor <;> simp [mid]) ?_
  · by_cases hk : k = 5 + NB
    · subst hk; simp +decide only [go_sem] at h; subst h; simp +decide only [go_sem, callMemAft, callMem]
    · simp +decide only [go_sem, hk] at h
  rintro r H' ⟨j', rfl, rfl⟩
  simp +decide only [go_sem]
  (repeat (first | refine kA ?_ | refine kB ?_ | ((first | (refine kC (N := 7) rfl (by kernel_rfl) ?_) | refine kD ?_ | refine kE ?_); simp +decide only [go_sem])))
  refine dw_frz 5 1 (ints (usort xs)) (anyRows j' 1) (by decide) (by simp +decide only [go_sem, callMemAft, ints_c]; rfl) (by simp) ?_
  have hlen : (ints (usort xs)).length = (cpt (srt xs)).length := by simp [usort]
  have hle : (cpt (srt xs)).length ≤ (usort xs).length := Nat.le_refl _
  have htk : (ints (usort xs)).take (cpt (srt xs)).length = ints (usort xs) := by rw [← hlen, List.take_length]
  refine kF ?_; simp +decide only [go_sem, hle, htk]
end Go.Proofs.YtfliennlinngeaaDoor.S

/- Numbers in order, each once: plain. -/
namespace Go.Proofs.YtfliennlinngeaaDoor
open Go.Dl S
theorem cptF_spec : ∀ (l : List Int) (p : Int), l.Pairwise (· ≤ ·) → (∀ x ∈ l, p ≤ x) →
    (cptF (some p) l).Pairwise (· < ·) ∧ (∀ x ∈ cptF (some p) l, p < x) ∧ ∀ x, x ∈ cptF (some p) l ↔ x ∈ l ∧ x ≠ p
  | [], p, _, _ => by simp [cptF]
  | x :: l, p, hs, hp => by
    obtain ⟨h1, h2⟩ := List.pairwise_cons.1 hs
    have hpx := hp x (by simp)
    obtain ⟨i1, i2, i3⟩ := cptF_spec l x h2 h1
    simp only [cptF]
    split
    · rename_i he
      injection he with he; subst he
      refine ⟨i1, i2, fun y => ?_⟩
      rw [i3]
      constructor
      · exact fun h => ⟨List.mem_cons_of_mem _ h.1, h.2⟩
      · rintro ⟨h, hn⟩
        rcases List.mem_cons.1 h with h | h
        · exact absurd h hn
        · exact ⟨h, hn⟩
    · rename_i he
      have hlt : p < x := by
        have : p ≠ x := fun e => he (by rw [e])
        omega
      refine ⟨List.pairwise_cons.2 ⟨i2, i1⟩, fun y hy => ?_, fun y => ?_⟩
      · rcases List.mem_cons.1 hy with rfl | hy
        · exact hlt
        · have := i2 y hy; omega
      · simp only [List.mem_cons, i3]
        constructor
        · rintro (rfl | ⟨h, _⟩)
          · exact ⟨.inl rfl, by omega⟩
          · have := h1 y h; exact ⟨.inr h, by omega⟩
        · rintro ⟨rfl | h, _⟩
          · exact .inl rfl
          · by_cases e : y = x
            · exact .inl e
            · exact .inr ⟨h, e⟩

theorem cpt_spec (l : List Int) (hs : l.Pairwise (· ≤ ·)) : (cpt l).Pairwise (· < ·) ∧ ∀ x, x ∈ cpt l ↔ x ∈ l := by
  cases l with
  | nil => simp [cpt, cptF]
  | cons x l =>
    obtain ⟨h1, h2⟩ := List.pairwise_cons.1 hs
    obtain ⟨i1, i2, i3⟩ := cptF_spec l x h2 h1
    have he : cpt (x :: l) = x :: cptF (some x) l := by simp [cpt, cptF]
    rw [he]
    refine ⟨List.pairwise_cons.2 ⟨i2, i1⟩, fun y => ?_⟩
    simp only [List.mem_cons, i3]
    constructor
    · rintro (h | h)
      · exact .inl h
      · exact .inr h.1
    · rintro (h | h)
      · exact .inl h
      · by_cases e : y = x
        · exact .inl e
        · exact .inr ⟨h, e⟩

theorem srt_pairwise (l : List Int) : (srt l).Pairwise (· ≤ ·) := by
  have := List.pairwise_mergeSort (le := fun x y : Int => decide (x ≤ y)) (fun a b c h1 h2 => by simp at *; omega) (fun a b => by simp; omega) l
  exact this.imp (by intro a b h; simpa using h)

theorem usort_spec (l : List Int) : (usort l).Pairwise (· < ·) ∧ ∀ x, x ∈ usort l ↔ x ∈ l := by
  obtain ⟨h1, h2⟩ := cpt_spec (srt l) (srt_pairwise l)
  exact ⟨h1, fun x => (h2 x).trans (List.mem_mergeSort)⟩


theorem lt_ext : ∀ {xs ys : List Int}, xs.Pairwise (· < ·) → ys.Pairwise (· < ·) → (∀ x, x ∈ xs ↔ x ∈ ys) → xs = ys
  | [], [], _, _, _ => rfl
  | [], y :: ys, _, _, h => by have := (h y).2 (by simp); simp at this
  | x :: xs, [], _, _, h => by have := (h x).1 (by simp); simp at this
  | x :: xs, y :: ys, hx, hy, h => by
    obtain ⟨a1, a2⟩ := List.pairwise_cons.1 hx
    obtain ⟨b1, b2⟩ := List.pairwise_cons.1 hy
    have e : x = y := by
      rcases List.mem_cons.1 ((h x).1 (by simp)) with e | e
      · exact e
      · rcases List.mem_cons.1 ((h y).2 (by simp)) with f | f
        · exact f.symm
        · have := a1 y f; have := b1 x e; omega
    subst e
    rw [lt_ext a2 b2 fun z => ?_]
    constructor
    · intro hz
      rcases List.mem_cons.1 ((h z).1 (by simp [hz])) with e | e
      · have := a1 z hz; omega
      · exact e
    · intro hz
      rcases List.mem_cons.1 ((h z).2 (by simp [hz])) with e | e
      · have := b1 z hz; omega
      · exact e
theorem usort_eq {xs ys : List Int} (hs : ys.Pairwise (· < ·)) (hm : ∀ x, x ∈ ys ↔ x ∈ xs) : usort xs = ys :=
  lt_ext (usort_spec xs).1 hs fun x => ((usort_spec xs).2 x).trans (hm x).symm
theorem usort_congr {xs ys : List Int} (hm : ∀ x, x ∈ xs ↔ x ∈ ys) : usort xs = usort ys :=
  usort_eq (usort_spec ys).1 fun x => ((usort_spec ys).2 x).trans (hm x).symm
theorem usort_up {xs : List Int} (h : xs.Pairwise (· < ·)) : usort xs = xs := usort_eq h fun _ => Iff.rfl
theorem usort_usort (xs : List Int) : usort (usort xs) = usort xs := usort_up (usort_spec xs).1
def putI (l : List Int) (n : Int) : List Int := (l.takeWhile fun x => decide (x < n)) ++ n :: (l.dropWhile fun x => decide (x < n)).dropWhile fun x => decide (x = n)
theorem putI_spec {l : List Int} (n : Int) (h : l.Pairwise (· < ·)) : (putI l n).Pairwise (· < ·) ∧ ∀ x, x ∈ putI l n ↔ x ∈ l ∨ x = n := by
  have key : ∀ l : List Int, l.Pairwise (· < ·) → ∃ a b, l = a ++ b ∧ (l.takeWhile fun x => decide (x < n)) = a ∧ (l.dropWhile fun x => decide (x < n)) = b ∧ (∀ x ∈ a, x < n) ∧ ∀ x ∈ b, n ≤ x := by
    intro l
    induction l with
    | nil => intro _; exact ⟨[], [], rfl, rfl, rfl, by simp, by simp⟩
    | cons y l ih =>
      intro h
      obtain ⟨h1, h2⟩ := List.pairwise_cons.1 h
      by_cases hy : y < n
      · obtain ⟨a, b, e, ea, eb, ha, hb⟩ := ih h2
        refine ⟨y :: a, b, by rw [e]; rfl, ?_, ?_, ?_, hb⟩
        · rw [List.takeWhile_cons, if_pos (by simpa using hy), ea]
        · rw [List.dropWhile_cons, if_pos (by simpa using hy), eb]
        · intro x hx
          rcases List.mem_cons.1 hx with rfl | hx
          · exact hy
          · exact ha x hx
      · refine ⟨[], y :: l, rfl, ?_, ?_, by simp, ?_⟩
        · rw [List.takeWhile_cons, if_neg (by simpa using hy)]
        · rw [List.dropWhile_cons, if_neg (by simpa using hy)]
        · intro x hx
          rcases List.mem_cons.1 hx with rfl | hx
          · omega
          · have := h1 x hx; omega
  obtain ⟨a, b, e, ea, eb, ha, hb⟩ := key l h
  have hP := h
  rw [e, List.pairwise_append] at hP
  obtain ⟨pa, pb, pab⟩ := hP
  have hd : ∃ c, (b.dropWhile fun x => decide (x = n)) = c ∧ (b = c ∨ b = n :: c) ∧ (∀ x ∈ c, n < x) ∧ c.Pairwise (· < ·) := by
    cases b with
    | nil => exact ⟨[], rfl, .inl rfl, by simp, by simp⟩
    | cons y b =>
      obtain ⟨q1, q2⟩ := List.pairwise_cons.1 pb
      by_cases hy : y = n
      · subst hy
        have hb2 : (b.dropWhile fun x => decide (x = y)) = b := by
          cases b with
          | nil => rfl
          | cons z b =>
            have := q1 z (by simp)
            rw [List.dropWhile_cons, if_neg (by simp; omega)]
        exact ⟨b, by rw [List.dropWhile_cons, if_pos (by simp), hb2], .inr rfl, q1, q2⟩
      · have hny := hb y (by simp)
        refine ⟨y :: b, by rw [List.dropWhile_cons, if_neg (by simpa using hy)], .inl rfl, fun x hx => ?_, pb⟩
        rcases List.mem_cons.1 hx with rfl | hx
        · omega
        · have := q1 x hx; omega
  obtain ⟨c, ec, hbc, hc, pc⟩ := hd
  have hput : putI l n = a ++ n :: c := by rw [putI, ea, eb, ec]
  rw [hput]
  refine ⟨?_, fun x => ?_⟩
  · rw [List.pairwise_append, List.pairwise_cons]
    refine ⟨pa, ⟨hc, pc⟩, fun x hx y hy => ?_⟩
    rcases List.mem_cons.1 hy with rfl | hy
    · exact ha x hx
    · have := ha x hx; have := hc y hy; omega
  · rw [e]
    rcases hbc with rfl | rfl
    · simp only [List.mem_append, List.mem_cons]
      constructor
      · rintro (h | h | h)
        · exact .inl (.inl h)
        · exact .inr h
        · exact .inl (.inr h)
      · rintro ((h | h) | h)
        · exact .inl h
        · exact .inr (.inr h)
        · exact .inr (.inl h)
    · simp only [List.mem_append, List.mem_cons]
      constructor
      · rintro (h | h | h)
        · exact .inl (.inl h)
        · exact .inr h
        · exact .inl (.inr (.inr h))
      · rintro ((h | h | h) | h)
        · exact .inl h
        · exact .inr (.inl h)
        · exact .inr (.inr h)
        · exact .inr (.inl h)
theorem putI_usort (xs : List Int) (n : Int) : putI (usort xs) n = usort (xs ++ [n]) := by
  obtain ⟨h1, h2⟩ := putI_spec n (usort_spec xs).1
  refine (usort_eq h1 fun x => ?_).symm
  rw [h2, (usort_spec xs).2]; simp
theorem usort_nil : usort [] = [] := by simp [usort, srt, cpt, cptF]
def lowI (l : List Int) (n : Int) : Nat := (l.takeWhile fun x => decide (x < n)).length
end Go.Proofs.YtfliennlinngeaaDoor

/- Numerals: plain. -/
namespace Go.Proofs.YtfliennlinngeaaDoor
open Go.Lib
theorem dd_small {u : Nat} (h : u < 10) : decDigits u = [UInt8.ofNat (48 + u)] := by rw [decDigits, dif_pos h]
theorem dd_big {u : Nat} (h : ¬ u < 10) : decDigits u = decDigits (u / 10) ++ [UInt8.ofNat (48 + u % 10)] := by rw [decDigits, dif_neg h]
theorem dig_nat {d : Nat} (h : d < 10) : (UInt8.ofNat (48 + d)).toNat = 48 + d := by
  rw [UInt8.toNat_ofNat']; exact Nat.mod_eq_of_lt (by omega)
theorem dd_digit : ∀ u : Nat, ∀ c ∈ decDigits u, 48 ≤ c.toNat ∧ c.toNat ≤ 57 := by
  intro u
  induction u using Nat.strongRecOn with
  | _ u ih =>
    intro c hc
    by_cases h : u < 10
    · rw [dd_small h] at hc
      rw [List.mem_singleton.1 hc, dig_nat h]; omega
    · rw [dd_big h] at hc
      rcases List.mem_append.1 hc with hc | hc
      · exact ih (u / 10) (by omega) c hc
      · rw [List.mem_singleton.1 hc, dig_nat (by omega)]; omega
theorem dd_head (u : Nat) : ∃ c r, decDigits u = c :: r ∧ 48 ≤ c.toNat ∧ c.toNat ≤ 57 := by
  cases h : decDigits u with
  | nil =>
    exfalso
    by_cases h2 : u < 10
    · rw [dd_small h2] at h; cases h
    · rw [dd_big h2] at h; simp at h
  | cons c r => exact ⟨c, r, rfl, dd_digit u c (by rw [h]; simp)⟩
theorem dd_cons {u : Nat} : u ≠ 0 → decDigits u = (if u / 10 = 0 then [] else decDigits (u / 10)) ++ [UInt8.ofNat (48 + u % 10)] := by
  intro h0
  by_cases h : u < 10
  · rw [dd_small h, if_pos (by omega), Nat.mod_eq_of_lt h]; rfl
  · rw [dd_big h, if_neg (by omega)]
theorem parse_dd : ∀ (u : Nat) (r : List UInt8), u ≤ 1099511627776 → parseUint10 0 (decDigits u ++ r) = parseUint10 u r := by
  intro u
  induction u using Nat.strongRecOn with
  | _ u ih =>
    intro r hu
    have step : ∀ (a d : Nat), d < 10 → a * 10 + d ≤ 1099511627776 → parseUint10 a (UInt8.ofNat (48 + d) :: r) = parseUint10 (a * 10 + d) r := fun a d hd ha => by
      rw [parseUint10, dig_nat hd, if_pos (by omega), if_neg (by omega), if_neg (by omega)]
      congr 1; omega
    by_cases h : u < 10
    · rw [dd_small h, List.singleton_append, step 0 u h (by omega)]
      congr 1; omega
    · rw [dd_big h, List.append_assoc, ih (u / 10) (by omega) _ (by omega), List.singleton_append, step (u / 10) (u % 10) (by omega) (by omega)]
      congr 1; omega
def rdR (acc : Nat) : List UInt8 → Option Nat
  | [] => some acc
  | c :: r => if 48 ≤ c.toNat ∧ c.toNat ≤ 57 then (if 1099511627776 < acc * 10 + (c.toNat - 48) then none else rdR (acc * 10 + (c.toNat - 48)) r) else none
theorem rdR_dd : ∀ (u : Nat) (r : List UInt8), u ≤ 1099511627776 → rdR 0 (decDigits u ++ r) = rdR u r := by
  intro u
  induction u using Nat.strongRecOn with
  | _ u ih =>
    intro r hu
    have step : ∀ (a d : Nat), d < 10 → a * 10 + d ≤ 1099511627776 → rdR a (UInt8.ofNat (48 + d) :: r) = rdR (a * 10 + d) r := fun a d hd ha => by
      rw [rdR, dig_nat hd, if_pos (by omega), if_neg (by omega)]
      congr 1; omega
    by_cases h : u < 10
    · rw [dd_small h, List.singleton_append, step 0 u h (by omega)]
      congr 1; omega
    · rw [dd_big h, List.append_assoc, ih (u / 10) (by omega) _ (by omega), List.singleton_append, step (u / 10) (u % 10) (by omega) (by omega)]
      congr 1; omega
theorem rdR_le : ∀ (l : List UInt8) (acc u : Nat), acc ≤ 1099511627776 → rdR acc l = some u → u ≤ 1099511627776
  | [], acc, u, ha, h => by rw [rdR] at h; injection h with h; omega
  | c :: r, acc, u, ha, h => by
    rw [rdR] at h
    split at h
    · split at h
      · cases h
      · exact rdR_le r _ u (by omega) h
    · cases h
def valD (l : List UInt8) : Nat := l.foldl (fun a c => a * 10 + (c.toNat - 48)) 0
theorem valD_dd (u : Nat) : valD (decDigits u) = u := by
  induction u using Nat.strongRecOn with
  | _ u ih =>
    by_cases h : u < 10
    · rw [dd_small h]; simp only [valD, List.foldl_cons, List.foldl_nil, dig_nat h]; omega
    · rw [dd_big h, valD, List.foldl_append]
      have := ih (u / 10) (by omega)
      rw [valD] at this
      rw [this]
      simp only [List.foldl_cons, List.foldl_nil, dig_nat (show u % 10 < 10 by omega)]; omega
theorem dd_inj {u v : Nat} (h : decDigits u = decDigits v) : u = v := by rw [← valD_dd u, h, valD_dd]
theorem itoa_neg {n : Int} (h : n < 0) : itoa n = 45 :: decDigits n.natAbs := by rw [itoa, if_pos h]
theorem itoa_pos {n : Int} (h : ¬ n < 0) : itoa n = decDigits n.natAbs := by
  rw [itoa, if_neg h]; congr 1; omega
theorem dd_no45 (u : Nat) : (decDigits u).head? ≠ some 45 := by
  obtain ⟨c, r, h, h1, _⟩ := dd_head u
  rw [h]; intro e; simp at e; rw [e] at h1; exact absurd h1 (by decide)
theorem itoa_inj {a b : Int} (h : itoa a = itoa b) : a = b := by
  by_cases ha : a < 0
  · by_cases hb : b < 0
    · rw [itoa_neg ha, itoa_neg hb] at h
      injection h with _ h
      have := dd_inj h; omega
    · rw [itoa_neg ha, itoa_pos hb] at h
      exact absurd (by rw [← h]; rfl) (dd_no45 b.natAbs)
  · by_cases hb : b < 0
    · rw [itoa_pos ha, itoa_neg hb] at h
      exact absurd (by rw [h]; rfl) (dd_no45 a.natAbs)
    · rw [itoa_pos ha, itoa_pos hb] at h
      have := dd_inj h; omega

def okN (v : Int) (s : List UInt8) : Prop := itoa v = s ∧ -1099511627776 ≤ v ∧ v ≤ 1099511627776
instance (v : Int) (s : List UInt8) : Decidable (okN v s) := by unfold okN; infer_instance
def parseP (s : List UInt8) : Int × Bool := match atoiAll s with
  | .ok v => if okN v s then (v, true) else (0, false)
  | _ => (0, false)
def isM (s : List UInt8) : Bool := s.head? == some 45
def sgn (s : List UInt8) (u : Nat) : Int := if isM s = true then -(u : Int) else (u : Int)
def parseR (s : List UInt8) : Int × Bool := match rdR 0 (if isM s = true then s.tail else s) with
  | some u => if itoa (sgn s u) = s then (sgn s u, true) else (0, false)
  | none => (0, false)
theorem atoi_of {v : Int} (h1 : -1099511627776 ≤ v) (h2 : v ≤ 1099511627776) : atoiAll (itoa v) = .ok v := by
  have hm : parseMag (decDigits v.natAbs) = .ok v.natAbs := by
    obtain ⟨c, r, h, _⟩ := dd_head v.natAbs
    have hp := parse_dd v.natAbs [] (by omega)
    rw [List.append_nil] at hp
    rw [parseMag, if_neg (by rw [h]; simp), hp, parseUint10]
  by_cases hv : v < 0
  · rw [itoa_neg hv, atoiAll]
    simp only [show (45 : UInt8).toNat = 45 from rfl, or_true, if_true, hm]
    rw [if_neg (by simp), if_neg (by omega)]
    congr 1; omega
  · obtain ⟨c, r, h, h3, h4⟩ := dd_head v.natAbs
    rw [itoa_pos hv]
    rw [h] at hm ⊢
    rw [atoiAll]
    simp only [show ¬ c.toNat = 43 by omega, show ¬ c.toNat = 45 by omega, or_self, if_false]
    rw [hm]
    simp only [not_false_iff, true_and, false_and, if_false]
    rw [if_neg (by omega)]
    congr 1; omega
theorem isM_neg {v : Int} (h : v < 0) : isM (itoa v) = true := by rw [itoa_neg h]; rfl
theorem isM_pos {v : Int} (h : ¬ v < 0) : isM (itoa v) = false := by
  rw [itoa_pos h, isM]
  have := dd_no45 v.natAbs
  cases h2 : (decDigits v.natAbs).head? == some 45
  · rfl
  · exact absurd (by simpa using h2) this
theorem rd_of {v : Int} (h1 : -1099511627776 ≤ v) (h2 : v ≤ 1099511627776) : rdR 0 (if isM (itoa v) = true then (itoa v).tail else itoa v) = some v.natAbs ∧ sgn (itoa v) v.natAbs = v := by
  have hr := rdR_dd v.natAbs [] (by omega)
  rw [List.append_nil, rdR] at hr
  by_cases hv : v < 0
  · rw [isM_neg hv, if_pos rfl, itoa_neg hv]
    refine ⟨hr, ?_⟩
    rw [← itoa_neg hv, sgn, isM_neg hv, if_pos rfl]; omega
  · rw [isM_pos hv, if_neg (by decide), itoa_pos hv]
    refine ⟨hr, ?_⟩
    rw [← itoa_pos hv, sgn, isM_pos hv, if_neg (by decide)]; omega
theorem parseP_of {v : Int} (h1 : -1099511627776 ≤ v) (h2 : v ≤ 1099511627776) : parseP (itoa v) = (v, true) := by
  rw [parseP, atoi_of h1 h2]; exact if_pos ⟨rfl, h1, h2⟩
theorem parseR_of {v : Int} (h1 : -1099511627776 ≤ v) (h2 : v ≤ 1099511627776) : parseR (itoa v) = (v, true) := by
  obtain ⟨a, b⟩ := rd_of h1 h2
  rw [parseR, a]; simp only [b, if_true]
theorem parseP_no {s : List UInt8} (h : ∀ v : Int, ¬ okN v s) : parseP s = (0, false) := by
  unfold parseP
  split
  · rename_i v _; rw [if_neg (h v)]
  · rfl
theorem parseR_no {s : List UInt8} (h : ∀ v : Int, ¬ okN v s) : parseR s = (0, false) := by
  unfold parseR
  split
  · rename_i u hu
    have hle := rdR_le _ _ _ (by omega) hu
    rw [if_neg]
    intro e
    exact h _ ⟨e, by unfold sgn; split <;> omega, by unfold sgn; split <;> omega⟩
  · rfl
theorem parse_cases (s : List UInt8) : (∃ v : Int, okN v s ∧ parseP s = (v, true) ∧ parseR s = (v, true)) ∨ ((∀ v : Int, ¬ okN v s) ∧ parseP s = (0, false) ∧ parseR s = (0, false)) := by
  by_cases h : ∃ v : Int, okN v s
  · obtain ⟨v, h0, h1, h2⟩ := h
    subst h0
    exact .inl ⟨v, ⟨rfl, h1, h2⟩, parseP_of h1 h2, parseR_of h1 h2⟩
  · have h' : ∀ v : Int, ¬ okN v s := fun v hv => h ⟨v, hv⟩
    exact .inr ⟨h', parseP_no h', parseR_no h'⟩
theorem parse_eq (s : List UInt8) : parseR s = parseP s := by
  rcases parse_cases s with ⟨v, _, a, b⟩ | ⟨_, a, b⟩ <;> rw [a, b]
theorem parse_itoa (n : Int) : parseP (itoa n) = if -1099511627776 ≤ n ∧ n ≤ 1099511627776 then (n, true) else (0, false) := by
  by_cases h : -1099511627776 ≤ n ∧ n ≤ 1099511627776
  · rw [if_pos h, parseP_of h.1 h.2]
  · rw [if_neg h, parseP_no]
    rintro v ⟨h0, h1, h2⟩
    rw [itoa_inj h0] at h1 h2
    exact h ⟨h1, h2⟩
theorem parse_only {s : List UInt8} (h : (parseP s).2 = true) : okN (parseP s).1 s := by
  rcases parse_cases s with ⟨v, a, b, _⟩ | ⟨_, a, _⟩
  · rw [b]; exact a
  · rw [a] at h; cases h
theorem parse_zero {s : List UInt8} (h : (parseP s).2 = false) : (parseP s).1 = 0 := by
  rcases parse_cases s with ⟨v, a, b, _⟩ | ⟨_, a, _⟩
  · rw [b] at h; cases h
  · rw [a]
def clipI (n lo hi : Int) : Int := if lo > hi ∨ n < lo then lo else if n > hi then hi else n
end Go.Proofs.YtfliennlinngeaaDoor

namespace Go.Proofs.YtfliennlinngeaaDoor
abbrev kpm1 : List (Nat × Go.Dl.Mode) := [(0, .light), (1, .light), (2, .light), (3, .light), (4, .light), (5, .light), (6, .light), (7, .light), (8, .light)]
end Go.Proofs.YtfliennlinngeaaDoor
/- Lists of numbers: contracts that other chapters have too. -/
namespace Go.Proofs.YtfliennlinngeaaDoor
open Go.Dl
open Go.Dl renaming dw_seq → kA, dw_block → kB, dw_reg → kC, dw_skip → kD, dw_exit → kE, dw_ret → kF, dw_cond → kG, guardC_f → kH, guardC_t → kI, dw_drw → kJ, dw_weaken → kK, sub_kn → kL, sub_ml → kM
open Go.Dl.CallC renaming mk → kN, light → kO
open Go.Dl.LeL renaming of_eq → kP
open S (usort)
attribute [local irreducible] DW DCalls ECalls wk IW

def idxF {α : Type} (q : α → Bool) (l : List α) : Int := if l.any q then ((l.findIdx q : Nat) : Int) else -1

theorem idxF_at {α : Type} {q : α → Bool} {l : List α} {k : Nat} {x : α} (hx : l[k]? = some x) (hi : ∀ y ∈ l.take k, q y = false) (h : q x = true) : idxF q l = (k : Int) := by
  have hk := (List.getElem?_eq_some_iff.1 hx).1
  have hany : l.any q = true := List.any_eq_true.2 ⟨x, List.mem_of_getElem? hx, h⟩
  have hf : l.findIdx q = k := by
    rw [List.findIdx_eq hk]
    refine ⟨by obtain ⟨h1, h2⟩ := List.getElem?_eq_some_iff.1 hx; rw [h2]; exact h, fun j hj => ?_⟩
    exact hi _ (List.mem_iff_getElem?.2 ⟨j, by rw [List.getElem?_take_of_lt hj]; exact List.getElem?_eq_getElem (by omega)⟩)
  rw [idxF, if_pos hany, hf]
theorem idxF_no {α : Type} {q : α → Bool} {l : List α} (hi : ∀ y ∈ l, q y = false) : idxF q l = -1 := by
  rw [idxF, if_neg]; simpa using hi

/-! ### Kinds -/

theorem idxF_any {α : Type} (q : α → Bool) (l : List α) : decide ((0 : Int) ≤ idxF q l) = l.any q := by
  unfold idxF
  split
  · rename_i h; rw [h]; simp
  · rename_i h; simp at h ⊢; exact h

theorem any_take_no {α : Type} {q : α → Bool} {l : List α} (h : ∀ x ∈ l.take l.length, q x = false) : l.any q = false := by
  rw [List.take_length] at h; rw [List.any_eq_false]; intro x hx; rw [h x hx]; decide
theorem any_at {α : Type} {q : α → Bool} {l : List α} {k : Nat} {x : α} (hx : l[k]? = some x) (h : q x = true) : l.any q = true := List.any_eq_true.2 ⟨x, List.mem_of_getElem? hx, h⟩

theorem low_is {l : List Int} {n : Int} {k : Nat} (hk : k ≤ l.length) (h1 : ∀ x ∈ l.take k, x < n) (h2 : ∀ x, l[k]? = some x → ¬ x < n) : l.takeWhile (fun x => decide (x < n)) = l.take k ∧ l.dropWhile (fun x => decide (x < n)) = l.drop k := by
  induction l generalizing k with
  | nil => simp
  | cons y l ih =>
    cases k with
    | zero =>
      have := h2 y rfl
      simp [List.takeWhile_cons, List.dropWhile_cons, this]
    | succ k =>
      have hy := h1 y (by simp)
      have := ih (k := k) (by simpa using hk) (fun x hx => h1 x (by simp [hx])) (fun x hx => h2 x (by simpa using hx))
      simp [List.takeWhile_cons, List.dropWhile_cons, hy, this]
theorem putI_at {l : List Int} {n : Int} {k : Nat} (hs : l.Pairwise (· < ·)) (hk : k ≤ l.length) (h1 : ∀ x ∈ l.take k, x < n) (h2 : ∀ x, l[k]? = some x → ¬ x < n) :
    putI l n = l.take k ++ n :: l.drop (if l[k]? = some n then k + 1 else k) := by
  obtain ⟨e1, e2⟩ := low_is hk h1 h2
  rw [putI, e1, e2]
  congr 2
  rcases Nat.lt_or_ge k l.length with hlt | hge
  · have hx : l[k]? = some l[k] := List.getElem?_eq_getElem hlt
    rw [List.drop_eq_getElem_cons hlt, hx]
    by_cases he : l[k] = n
    · rw [if_pos (by rw [he]), List.dropWhile_cons, if_pos (by simpa using he)]
      cases hd : l.drop (k + 1) with
      | nil => rfl
      | cons z r =>
        have hz : k + 1 < l.length := by
          have := congrArg List.length hd; simp at this; omega
        have hze : l[k + 1] = z := by
          rw [List.drop_eq_getElem_cons hz] at hd; injection hd
        have := List.pairwise_iff_getElem.1 hs k (k + 1) hlt hz (by omega)
        rw [List.dropWhile_cons, if_neg (by simp; omega)]
    · rw [if_neg (by simpa using he), List.dropWhile_cons, if_neg (by simpa using he), ← List.drop_eq_getElem_cons hlt]
  · rw [List.drop_eq_nil_of_le hge, List.getElem?_eq_none hge]
    simp
    omega

set_option maxRecDepth 10000 in
set_option maxHeartbeats 4000000 in
theorem r1Put_D (l : List Int) (n : Int) (hs : l.Pairwise (· < ·)) (hl : l.length ≤ 1000000) : DCalls Tryd.prog 36 [dv (.sl 1 (ints l)), dv (li n)] (dv (.sl 1 (ints (putI l n)))) := by
  have hmax : maxLen = 9223372036854775807 := rfl
  refine dcalls (N := 51) (rs := [.tmp 4]) (by kernel_rfl) Tryd.func36 rfl rfl rfl (by simp) ?_
  (repeat' (first | refine kA ?_ | refine kB ?_ | ((first | (refine kC (N := 51) rfl (by kernel_rfl) ?_) | refine kD ?_ | refine kE ?_); simp +decide only [go_sem]) | (apply kG; (simp +decide only [go_sem]; rfl); all_goals (intro hcnd; first | (exact absurd hcnd (by decide)) | skip)) | ((first | refine kH ?_ ?_ | refine kI ?_ ?_) <;> (intro hcnd; simp +decide only [go_sem, hcnd]))))
  refine dw_own 5 5 1 (by simp +decide only [go_sem]) ?_
  refine dw_after (fun k : Nat => kn 51 [(0, dv (.sl 1 (ints l))), (1, dv (li n)), (5, .one (.own 5 1 (ints (l.take k)))), (6, dv (li k))] noMem) (fun k => k ≤ l.length ∧ (∀ x ∈ l.take k, x < n) ∧ ∀ x, l[k]? = some x → ¬ x < n) ?_ ?_
  · refine dw_loop_fam (fun k : Nat => kn 51 [(0, dv (.sl 1 (ints l))), (1, dv (li n)), (5, .one (.own 5 1 (ints (l.take k)))), (6, dv (li k))] noMem) (fun k => k ≤ l.length ∧ ∀ x ∈ l.take k, x < n) (fun k => l.length - k) 0 (kL rfl (by simp +decide only [go_sem, List.take_zero, List.map_nil]) (by simp [noMem])) ⟨Nat.zero_le _, by simp⟩ ?_
    rintro k ⟨hk, h1⟩
    cases t1 : decide ((k : Int) < (l.length : Int))
    · have hke : l.length ≤ k := by simpa using t1
      (repeat' (first | refine kA ?_ | refine kB ?_ | ((first | (refine kC (N := 51) rfl (by kernel_rfl) ?_) | refine kD ?_ | refine kE ?_); simp +decide only [go_sem, t1]) | (apply kG; (simp +decide only [go_sem, t1]; rfl); all_goals (intro hcnd; first | (exact absurd hcnd (by decide)) | skip)) | ((first | refine kH ?_ ?_ | refine kI ?_ ?_) <;> (intro hcnd; simp +decide only [go_sem, hcnd, t1]))))
      exact ⟨k, ⟨hk, h1, fun x hx => by rw [List.getElem?_eq_none hke] at hx; cases hx⟩, kL rfl (by simp +decide only [go_sem]) (by simp [noMem])⟩
    · have hkl : k < l.length := by simpa using t1
      obtain ⟨x, hx⟩ : ∃ x, l[k]? = some x := ⟨_, List.getElem?_eq_getElem hkl⟩
      have hw := wrap_succ k (by omega)
      have r1 : (((l.take k).length + 1) * 8 ≤ 140737488355328) = True := eq_true (by rw [List.length_take]; omega)
      cases t2 : decide (x < n)
      · (repeat' (first | refine kA ?_ | refine kB ?_ | ((first | (refine kC (N := 51) rfl (by kernel_rfl) ?_) | refine kD ?_ | refine kE ?_); simp +decide only [go_sem, t1, t2, hx]) | (apply kG; (simp +decide only [go_sem, t1, t2, hx]; rfl); all_goals (intro hcnd; first | (exact absurd hcnd (by decide)) | skip)) | ((first | refine kH ?_ ?_ | refine kI ?_ ?_) <;> (intro hcnd; simp +decide only [go_sem, hcnd, t1, t2, hx]))))
        exact ⟨k, ⟨hk, h1, fun y hy => by rw [hx] at hy; injection hy with hy; subst hy; simpa using t2⟩, kL rfl (by simp +decide only [go_sem]) (by simp [noMem])⟩
      · have htk : l.take (k + 1) = l.take k ++ [x] := take_snoc hx
        (repeat' (first | refine kA ?_ | refine kB ?_ | ((first | (refine kC (N := 51) rfl (by kernel_rfl) ?_) | refine kD ?_ | refine kE ?_); simp +decide only [go_sem, t1, t2, hx, hw, r1]) | (apply kG; (simp +decide only [go_sem, t1, t2, hx, hw, r1]; rfl); all_goals (intro hcnd; first | (exact absurd hcnd (by decide)) | skip)) | ((first | refine kH ?_ ?_ | refine kI ?_ ?_) <;> (intro hcnd; simp +decide only [go_sem, hcnd, t1, t2, hx, hw, r1]))))
        exact ⟨k + 1, ⟨by omega, fun y hy => by
          rw [htk] at hy
          rcases List.mem_append.1 hy with hy | hy
          · exact h1 y hy
          · rw [List.mem_singleton.1 hy]; simpa using t2⟩, by omega, kL rfl (by simp +decide only [go_sem, htk, List.map_append]) (by simp [noMem])⟩
  rintro k ⟨hk, h1, h2⟩
  have hput := putI_at hs hk h1 h2
  have r1 : (((l.take k).length + 1) * 8 ≤ 140737488355328) = True := eq_true (by rw [List.length_take]; omega)
  have hw := wrap_succ k (by omega)
  have hkk : (l.take k).length = k := by rw [List.length_take]; omega
  have htI : List.take l.length (ints l) = ints l := List.take_of_length_le (by simp)
  have hdI : ∀ m, List.drop m (ints l) = ints (l.drop m) := fun m => by simp [List.map_drop]
  have hfin : ∀ m, ints (l.take k) ++ [[li n]] ++ ints (l.drop m) = ints (l.take k ++ n :: l.drop m) := fun m => by simp
  have r2 : ∀ m, m ≤ l.length → (((l.take k).length + 1 + (l.length - m)) * 8 ≤ 140737488355328) = True := fun m hm => eq_true (by rw [hkk]; omega)
  cases t1 : decide ((k : Int) < (l.length : Int))
  · have hke : l.length ≤ k := by simpa using t1
    have hke2 : k = l.length := by omega
    rw [List.getElem?_eq_none hke, if_neg (by simp)] at hput
    have hlo := r2 k hk
    have hkT : (k ≤ l.length) = True := eq_true hk
    (repeat' (first | refine kA ?_ | refine kB ?_ | ((first | (refine kC (N := 51) rfl (by kernel_rfl) ?_) | refine kD ?_ | refine kE ?_); simp +decide only [go_sem, t1, r1, hlo, hkT, htI, hdI, Int.toNat_natCast, List.length_append, List.length_map, List.length_cons, List.length_nil, List.length_drop]) | (apply kG; (simp +decide only [go_sem, t1, r1, hlo, hkT, htI, hdI, Int.toNat_natCast, List.length_append, List.length_map, List.length_cons, List.length_nil, List.length_drop]; rfl); all_goals (intro hcnd; first | (exact absurd hcnd (by decide)) | skip)) | ((first | refine kH ?_ ?_ | refine kI ?_ ?_) <;> (intro hcnd; simp +decide only [go_sem, hcnd, t1, r1, hlo, hkT, htI, hdI, Int.toNat_natCast, List.length_append, List.length_map, List.length_cons, List.length_nil, List.length_drop]))))
    rw [hput, ← hfin]
    refine dw_slot 4 _ (DLe.own_ _ _ _) ?_
    refine kF ?_; simp +decide only [go_sem]
  · have hkl : k < l.length := by simpa using t1
    obtain ⟨x, hx⟩ : ∃ x, l[k]? = some x := ⟨_, List.getElem?_eq_getElem hkl⟩
    cases t2 : x == n
    · rw [hx, if_neg (by simpa using t2)] at hput
      have hlo := r2 k hk
      have hkT : (k ≤ l.length) = True := eq_true hk
      (repeat' (first | refine kA ?_ | refine kB ?_ | ((first | (refine kC (N := 51) rfl (by kernel_rfl) ?_) | refine kD ?_ | refine kE ?_); simp +decide only [go_sem, t1, hx, t2, r1, hlo, hkT, htI, hdI, Int.toNat_natCast, List.length_append, List.length_map, List.length_cons, List.length_nil, List.length_drop]) | (apply kG; (simp +decide only [go_sem, t1, hx, t2, r1, hlo, hkT, htI, hdI, Int.toNat_natCast, List.length_append, List.length_map, List.length_cons, List.length_nil, List.length_drop]; rfl); all_goals (intro hcnd; first | (exact absurd hcnd (by decide)) | skip)) | ((first | refine kH ?_ ?_ | refine kI ?_ ?_) <;> (intro hcnd; simp +decide only [go_sem, hcnd, t1, hx, t2, r1, hlo, hkT, htI, hdI, Int.toNat_natCast, List.length_append, List.length_map, List.length_cons, List.length_nil, List.length_drop]))))
      rw [hput, ← hfin]
      refine dw_slot 4 _ (DLe.own_ _ _ _) ?_
      refine kF ?_; simp +decide only [go_sem]
    · rw [hx, if_pos (by simpa using t2)] at hput
      have hlo := r2 (k + 1) hkl
      have hkT : (k + 1 ≤ l.length) = True := eq_true hkl
      (repeat' (first | refine kA ?_ | refine kB ?_ | ((first | (refine kC (N := 51) rfl (by kernel_rfl) ?_) | refine kD ?_ | refine kE ?_); simp +decide only [go_sem, t1, hx, t2, hw, r1, hlo, hkT, htI, hdI, Int.toNat_natCast, List.length_append, List.length_map, List.length_cons, List.length_nil, List.length_drop]) | (apply kG; (simp +decide only [go_sem, t1, hx, t2, hw, r1, hlo, hkT, htI, hdI, Int.toNat_natCast, List.length_append, List.length_map, List.length_cons, List.length_nil, List.length_drop]; rfl); all_goals (intro hcnd; first | (exact absurd hcnd (by decide)) | skip)) | ((first | refine kH ?_ ?_ | refine kI ?_ ?_) <;> (intro hcnd; simp +decide only [go_sem, hcnd, t1, hx, t2, hw, r1, hlo, hkT, htI, hdI, Int.toNat_natCast, List.length_append, List.length_map, List.length_cons, List.length_nil, List.length_drop]))))
      rw [hput, ← hfin]
      refine dw_slot 4 _ (DLe.own_ _ _ _) ?_
      refine kF ?_; simp +decide only [go_sem]

set_option maxRecDepth 10000 in
set_option maxHeartbeats 4000000 in
theorem sameI_D (xs ys : List Int) (hx : xs.length ≤ maxLen) : DCalls Tryd.prog 19 [dv (.sl 1 (ints xs)), dv (.sl 1 (ints ys))] (dv (lb (decide (xs = ys)))) := by
  refine dcalls (N := 26) (rs := [.tmp 4]) (by kernel_rfl) Tryd.func19 rfl rfl rfl (by simp) ?_
  (repeat' (first | refine kA ?_ | refine kB ?_ | ((first | (refine kC (N := 26) rfl (by kernel_rfl) ?_) | (apply kJ (id := 6) (N := 26) kpm1; kernel_rfl; rfl; kernel_rfl; (repeat (first | exact Picks.nil | (apply Picks.cons; rfl)))) | refine kD ?_ | refine kE ?_ | refine kF ?_); simp +decide only [go_sem]) | (apply kG; (simp +decide only [go_sem]; rfl); all_goals (intro hcnd; first | (exact absurd hcnd (by decide)) | skip))))
  · have : xs ≠ ys := fun e => by subst e; simp at hcnd
    simp [this]
  · have hl : xs.length = ys.length := by simp at hcnd; omega
    refine dw_rngI xs (fun k => kn 26 [(0, dv (.sl 1 (ints xs))), (1, dv (.sl 1 (ints ys))), (12, dv (li xs.length)), (13, dv (li k))] noMem) (fun k => xs.take k = ys.take k) hx (kL rfl (by simp +decide only [go_sem]) (by simp [noMem])) rfl ?_ ?_
    · intro k x hx hk hm htk hlt hw hi
      have hyk : k < ys.length := by omega
      have hy : ys[k]? = some ys[k] := List.getElem?_eq_getElem hyk
      have hx' := ints_at hx
      have hy' := ints_at hy
      (repeat' (first | refine kA ?_ | refine kB ?_ | ((first | (refine kC (N := 26) rfl (by kernel_rfl) ?_) | (apply kJ (id := 6) (N := 26) kpm1; kernel_rfl; rfl; kernel_rfl; (repeat (first | exact Picks.nil | (apply Picks.cons; rfl)))) | refine kD ?_ | refine kE ?_ | refine kF ?_); simp +decide only [go_sem, hlt, hw, hx', hy']) | (apply kG; (simp +decide only [go_sem, hlt, hw, hx', hy']; rfl); all_goals (intro hcnd; first | (exact absurd hcnd (by decide)) | skip))))
      · have hne : x ≠ ys[k] := by simpa using hcnd
        have : xs ≠ ys := fun e => by
          subst e; rw [hx] at hy; injection hy with hy; exact hne hy
        simp [this]
      · have he : x = ys[k] := by simpa using hcnd
        exact ⟨by rw [htk, hi, he, ← take_snoc hy], kL rfl (by simp +decide only [go_sem]) (by simp [noMem])⟩
    · intro hlt hi
      rw [List.take_length, hl, List.take_length] at hi
      (repeat' (first | refine kA ?_ | refine kB ?_ | ((first | (refine kC (N := 26) rfl (by kernel_rfl) ?_) | (apply kJ (id := 6) (N := 26) kpm1; kernel_rfl; rfl; kernel_rfl; (repeat (first | exact Picks.nil | (apply Picks.cons; rfl)))) | refine kD ?_ | refine kE ?_ | refine kF ?_); simp +decide only [go_sem, hlt]) | (apply kG; (simp +decide only [go_sem, hlt]; rfl); all_goals (intro hcnd; first | (exact absurd hcnd (by decide)) | skip))))
      simp [hi]

set_option maxRecDepth 10000 in
set_option maxHeartbeats 4000000 in
theorem idxI_D (xs : List Int) (n : Int) (hx : xs.length ≤ maxLen) : DCalls Tryd.prog 46 [dv (.sl 1 (ints xs)), dv (li n)] (dv (li (idxF (fun x => n == x) xs))) := by
  refine dcalls (N := 19) (rs := [.tmp 4]) (by kernel_rfl) Tryd.func46 rfl rfl rfl (by simp) ?_
  (repeat (first | refine kA ?_ | refine kB ?_ | ((first | (refine kC (N := 19) rfl (by kernel_rfl) ?_) | refine kD ?_ | refine kE ?_); simp +decide only [go_sem])))
  refine dw_rngI xs (fun k => kn 19 [(0, dv (.sl 1 (ints xs))), (1, dv (li n)), (7, dv (li xs.length)), (8, dv (li k))] noMem) (fun k => ∀ x ∈ xs.take k, (n == x) = false) hx (kL rfl (by simp +decide only [go_sem]) (by simp [noMem])) (by simp) ?_ ?_
  · intro k x hx hk hm htk hlt hw hi
    have hx' := ints_at hx
    (repeat' (first | refine kA ?_ | refine kB ?_ | ((first | (refine kC (N := 19) rfl (by kernel_rfl) ?_) | refine kD ?_ | refine kE ?_ | refine kF ?_); simp +decide only [go_sem, hlt, hw, hx']) | (apply kG; (simp +decide only [go_sem, hlt, hw, hx']; rfl); all_goals (intro hcnd; first | (exact absurd hcnd (by decide)) | skip))))
    · rw [idxF_at hx hi hcnd]
    · exact ⟨forall_snoc htk hi hcnd, kL rfl (by simp +decide only [go_sem]) (by simp [noMem])⟩
  · intro hlt hi
    rw [List.take_length] at hi
    (repeat' (first | refine kA ?_ | refine kB ?_ | ((first | (refine kC (N := 19) rfl (by kernel_rfl) ?_) | refine kD ?_ | refine kE ?_ | refine kF ?_); simp +decide only [go_sem, hlt]) | (apply kG; (simp +decide only [go_sem, hlt]; rfl); all_goals (intro hcnd; first | (exact absurd hcnd (by decide)) | skip))))
    rw [idxF_no hi]

set_option maxRecDepth 10000 in
set_option maxHeartbeats 4000000 in
theorem rHasN_D (xs : List Int) (n : Int) (hx : xs.length ≤ maxLen) : DCalls Tryd.prog 23 [dv (.sl 1 (ints xs)), dv (li n)] (dv (lb (xs.any fun x => x == n))) := by
  refine dcalls (N := 18) (rs := [.tmp 4]) (by kernel_rfl) Tryd.func23 rfl rfl rfl (by simp) ?_
  (repeat' (first | refine kA ?_ | refine kB ?_ | ((first | (refine kC (N := 18) rfl (by kernel_rfl) ?_) | refine kD ?_ | refine kE ?_); simp +decide only [go_sem]) | (apply kG; (simp +decide only [go_sem]; rfl); all_goals (intro hcnd; first | (exact absurd hcnd (by decide)) | skip))))
  refine dw_rngI xs (fun k => kn 18 [(0, dv (.sl 1 (ints xs))), (1, dv (li n)), (7, dv (li xs.length)), (8, dv (li k))] noMem) (fun k => ∀ x ∈ xs.take k, (x == n) = false) hx (kL rfl (by simp +decide only [go_sem]) (by simp [noMem])) (by simp) ?_ ?_
  · intro k x hx hk hm htk hlt hw hi
    have hx' := ints_at hx
    (repeat' (first | refine kA ?_ | refine kB ?_ | ((first | (refine kC (N := 18) rfl (by kernel_rfl) ?_) | refine kD ?_ | refine kE ?_ | refine kF ?_); simp +decide only [go_sem, hlt, hw, hx']) | (apply kG; (simp +decide only [go_sem, hlt, hw, hx']; rfl); all_goals (intro hcnd; first | (exact absurd hcnd (by decide)) | skip))))
    · rw [any_at hx hcnd]
    · exact ⟨forall_snoc htk hi hcnd, kL rfl (by simp +decide only [go_sem]) (by simp [noMem])⟩
  · intro hlt hi
    rw [any_take_no hi]
    (repeat' (first | refine kA ?_ | refine kB ?_ | ((first | (refine kC (N := 18) rfl (by kernel_rfl) ?_) | refine kD ?_ | refine kE ?_ | refine kF ?_); simp +decide only [go_sem, hlt]) | (apply kG; (simp +decide only [go_sem, hlt]; rfl); all_goals (intro hcnd; first | (exact absurd hcnd (by decide)) | skip))))
end Go.Proofs.YtfliennlinngeaaDoor

/- Lists of numbers: the reference's sets; numbers clipped. -/
namespace Go.Proofs.YtfliennlinngeaaDoor
open Go.Dl
open Go.Dl renaming dw_seq → kA, dw_block → kB, dw_reg → kC, dw_skip → kD, dw_exit → kE, dw_ret → kF, dw_cond → kG, guardC_f → kH, guardC_t → kI, dw_drw → kJ, dw_weaken → kK, sub_kn → kL, sub_ml → kM
open Go.Dl.CallC renaming mk → kN, light → kO
open Go.Dl.LeL renaming of_eq → kP
open S (usort)
attribute [local irreducible] DW DCalls ECalls wk IW

theorem usort_lenI (xs : List Int) : (usort xs).length ≤ xs.length := S.usort_len xs
def inL (b : List Int) (n : Int) : Bool := b.any fun x => x == n
theorem inL_iff (b : List Int) (n : Int) : inL b n = true ↔ n ∈ b := by simp [inL]
def uniI (a b : List Int) : List Int := usort (a ++ b)
def minI (a b : List Int) : List Int := usort (a.filter fun x => !inL b x)
def botI (a b : List Int) : List Int := usort (a.filter fun x => inL b x)
theorem put_okN (xs : List Int) (n : Int) (hl : xs.length ≤ 999999) : DCalls Tryd.prog 36 [dv (.sl 1 (ints (usort xs))), dv (li n)] (dv (.sl 1 (ints (usort (xs ++ [n]))))) := by
  have h := r1Put_D (usort xs) n (usort_spec xs).1 (by have := usort_lenI xs; omega)
  rw [putI_usort] at h
  exact h

set_option maxRecDepth 10000 in
set_option maxHeartbeats 4000000 in
theorem rSorted_D (xs : List Int) (hl : xs.length ≤ 999999) : DCalls Tryd.prog 21 [dv (.sl 1 (ints xs))] (dv (.sl 1 (ints (usort xs)))) := by
  have hmax : maxLen = 9223372036854775807 := rfl
  refine dcalls (N := 18) (rs := [.tmp 2]) (by kernel_rfl) Tryd.func21 rfl rfl rfl (by simp) ?_
  (repeat' (first | refine kA ?_ | refine kB ?_ | ((first | (refine kC (N := 18) rfl (by kernel_rfl) ?_) | refine kD ?_ | refine kE ?_); simp +decide only [go_sem]) | (apply kG; (simp +decide only [go_sem]; rfl); all_goals (intro hcnd; first | (exact absurd hcnd (by decide)) | skip))))
  refine dw_slot 3 (dv (.sl 1 [])) (by simp +decide only [go_sem]) ?_
  refine dw_rng0 xs (fun k => kn 18 [(0, dv (.sl 1 (ints xs))), (3, dv (.sl 1 (ints (usort (xs.take k))))), (6, dv (li xs.length)), (7, dv (li k))] noMem) (by omega) (kL rfl (by simp +decide only [go_sem, List.take_zero, usort_nil, List.map_nil]) (by simp [noMem])) ?_ ?_
  · intro k x hx hk hm htk hlt hw
    have hx' := ints_at hx
    have hP := put_okN (xs.take k) x (by rw [List.length_take]; omega)
    rw [← htk] at hP
    (repeat' (first | refine kA ?_ | refine kB ?_ | ((first | (refine kC (N := 18) rfl (by kernel_rfl) ?_) | refine kD ?_ | refine kE ?_ | (refine kN (hP) (kP rfl) ?_) | (refine kO (hP) (kP rfl) ?_)); simp +decide only [go_sem, hlt, hw, hx']) | (apply kG; (simp +decide only [go_sem, hlt, hw, hx']; rfl); all_goals (intro hcnd; first | (exact absurd hcnd (by decide)) | skip))))
    exact kL rfl (by simp +decide only [go_sem]) (by simp [noMem])
  · intro hlt
    rw [List.take_length]
    (repeat' (first | refine kA ?_ | refine kB ?_ | ((first | (refine kC (N := 18) rfl (by kernel_rfl) ?_) | refine kD ?_ | refine kE ?_ | refine kF ?_); simp +decide only [go_sem, hlt]) | (apply kG; (simp +decide only [go_sem, hlt]; rfl); all_goals (intro hcnd; first | (exact absurd hcnd (by decide)) | skip))))

set_option maxRecDepth 10000 in
set_option maxHeartbeats 4000000 in
theorem rUnion_D (a b : List Int) (hl : a.length + b.length ≤ 999999) : DCalls Tryd.prog 25 [dv (.sl 1 (ints a)), dv (.sl 1 (ints b))] (dv (.sl 1 (ints (uniI a b)))) := by
  have hmax : maxLen = 9223372036854775807 := rfl
  have hS := rSorted_D a (by omega)
  refine dcalls (N := 22) (rs := [.tmp 4]) (by kernel_rfl) Tryd.func25 rfl rfl rfl (by simp) ?_
  (repeat' (first | refine kA ?_ | refine kB ?_ | ((first | (refine kC (N := 22) rfl (by kernel_rfl) ?_) | refine kD ?_ | refine kE ?_ | (refine kN (hS) (kP rfl) ?_) | (refine kO (hS) (kP rfl) ?_)); simp +decide only [go_sem]) | (apply kG; (simp +decide only [go_sem]; rfl); all_goals (intro hcnd; first | (exact absurd hcnd (by decide)) | skip))))
  refine dw_rng0 b (fun k => kn 22 [(1, dv (.sl 1 (ints b))), (5, dv (.sl 1 (ints (usort (a ++ b.take k))))), (10, dv (li b.length)), (11, dv (li k))] noMem) (by omega) (kL rfl (by simp +decide only [go_sem, List.take_zero, List.append_nil]) (by simp [noMem])) ?_ ?_
  · intro k x hx hk hm htk hlt hw
    have hx' := ints_at hx
    have hP := put_okN (a ++ b.take k) x (by rw [List.length_append, List.length_take]; omega)
    rw [List.append_assoc, ← htk] at hP
    (repeat' (first | refine kA ?_ | refine kB ?_ | ((first | (refine kC (N := 22) rfl (by kernel_rfl) ?_) | refine kD ?_ | refine kE ?_ | (refine kN (hP) (kP rfl) ?_) | (refine kO (hP) (kP rfl) ?_)); simp +decide only [go_sem, hlt, hw, hx']) | (apply kG; (simp +decide only [go_sem, hlt, hw, hx']; rfl); all_goals (intro hcnd; first | (exact absurd hcnd (by decide)) | skip))))
    exact kL rfl (by simp +decide only [go_sem]) (by simp [noMem])
  · intro hlt
    rw [List.take_length]
    (repeat' (first | refine kA ?_ | refine kB ?_ | ((first | (refine kC (N := 22) rfl (by kernel_rfl) ?_) | refine kD ?_ | refine kE ?_ | refine kF ?_); simp +decide only [go_sem, hlt]) | (apply kG; (simp +decide only [go_sem, hlt]; rfl); all_goals (intro hcnd; first | (exact absurd hcnd (by decide)) | skip))))
    rfl

set_option maxRecDepth 10000 in
set_option maxHeartbeats 4000000 in
theorem rMinus_D (a b : List Int) (hl : a.length ≤ 999999) (hb : b.length ≤ maxLen) : DCalls Tryd.prog 27 [dv (.sl 1 (ints a)), dv (.sl 1 (ints b))] (dv (.sl 1 (ints (minI a b)))) := by
  have hmax : maxLen = 9223372036854775807 := rfl
  refine dcalls (N := 27) (rs := [.tmp 4]) (by kernel_rfl) Tryd.func27 rfl rfl rfl (by simp) ?_
  (repeat' (first | refine kA ?_ | refine kB ?_ | ((first | (refine kC (N := 27) rfl (by kernel_rfl) ?_) | refine kD ?_ | refine kE ?_); simp +decide only [go_sem]) | (apply kG; (simp +decide only [go_sem]; rfl); all_goals (intro hcnd; first | (exact absurd hcnd (by decide)) | skip))))
  refine dw_slot 5 (dv (.sl 1 [])) (by simp +decide only [go_sem]) ?_
  refine dw_rng0 a (fun k => kn 27 [(0, dv (.sl 1 (ints a))), (1, dv (.sl 1 (ints b))), (5, dv (.sl 1 (ints (usort ((a.take k).filter fun x => !inL b x))))), (8, dv (li a.length)), (9, dv (li k))] noMem) (by omega) (kL rfl (by simp +decide only [go_sem, List.take_zero, List.filter_nil, usort_nil, List.map_nil]) (by simp [noMem])) ?_ ?_
  · intro k x hx hk hm htk hlt hw
    have hx' := ints_at hx
    have hH := rHasN_D b x hb
    have hP := put_okN ((a.take k).filter fun x => !inL b x) x (by have := List.length_filter_le (fun x => !inL b x) (a.take k); rw [List.length_take] at this; omega)
    have hst : (a.take (k + 1)).filter (fun x => !inL b x) = (a.take k).filter (fun x => !inL b x) ++ if inL b x = true then [] else [x] := by
      rw [htk, List.filter_append]
      cases h : inL b x <;> simp [h]
    rw [show (b.any fun y => y == x) = inL b x from rfl] at hH
    cases t1 : inL b x
    · rw [t1] at hH
      rw [t1, if_neg (by decide)] at hst
      (repeat' (first | refine kA ?_ | refine kB ?_ | ((first | (refine kC (N := 27) rfl (by kernel_rfl) ?_) | refine kD ?_ | refine kE ?_ | (refine kN (hH) (kP rfl) ?_) | (refine kO (hH) (kP rfl) ?_) | (refine kN (hP) (kP rfl) ?_) | (refine kO (hP) (kP rfl) ?_)); simp +decide only [go_sem, hlt, hw, hx']) | (apply kG; (simp +decide only [go_sem, hlt, hw, hx']; rfl); all_goals (intro hcnd; first | (exact absurd hcnd (by decide)) | skip))))
      exact kL rfl (by simp +decide only [go_sem, hst]) (by simp [noMem])
    · rw [t1] at hH
      rw [t1, if_pos rfl, List.append_nil] at hst
      (repeat' (first | refine kA ?_ | refine kB ?_ | ((first | (refine kC (N := 27) rfl (by kernel_rfl) ?_) | refine kD ?_ | refine kE ?_ | (refine kN (hH) (kP rfl) ?_) | (refine kO (hH) (kP rfl) ?_) | (refine kN (hP) (kP rfl) ?_) | (refine kO (hP) (kP rfl) ?_)); simp +decide only [go_sem, hlt, hw, hx']) | (apply kG; (simp +decide only [go_sem, hlt, hw, hx']; rfl); all_goals (intro hcnd; first | (exact absurd hcnd (by decide)) | skip))))
      exact kL rfl (by simp +decide only [go_sem, hst]) (by simp [noMem])
  · intro hlt
    rw [List.take_length]
    (repeat' (first | refine kA ?_ | refine kB ?_ | ((first | (refine kC (N := 27) rfl (by kernel_rfl) ?_) | refine kD ?_ | refine kE ?_ | refine kF ?_); simp +decide only [go_sem, hlt]) | (apply kG; (simp +decide only [go_sem, hlt]; rfl); all_goals (intro hcnd; first | (exact absurd hcnd (by decide)) | skip))))
    rfl

set_option maxRecDepth 10000 in
set_option maxHeartbeats 4000000 in
theorem rBoth_D (a b : List Int) (hl : a.length ≤ 999999) (hb : b.length ≤ maxLen) : DCalls Tryd.prog 29 [dv (.sl 1 (ints a)), dv (.sl 1 (ints b))] (dv (.sl 1 (ints (botI a b)))) := by
  have hmax : maxLen = 9223372036854775807 := rfl
  refine dcalls (N := 26) (rs := [.tmp 4]) (by kernel_rfl) Tryd.func29 rfl rfl rfl (by simp) ?_
  (repeat' (first | refine kA ?_ | refine kB ?_ | ((first | (refine kC (N := 26) rfl (by kernel_rfl) ?_) | refine kD ?_ | refine kE ?_); simp +decide only [go_sem]) | (apply kG; (simp +decide only [go_sem]; rfl); all_goals (intro hcnd; first | (exact absurd hcnd (by decide)) | skip))))
  refine dw_slot 5 (dv (.sl 1 [])) (by simp +decide only [go_sem]) ?_
  refine dw_rng0 a (fun k => kn 26 [(0, dv (.sl 1 (ints a))), (1, dv (.sl 1 (ints b))), (5, dv (.sl 1 (ints (usort ((a.take k).filter fun x => inL b x))))), (8, dv (li a.length)), (9, dv (li k))] noMem) (by omega) (kL rfl (by simp +decide only [go_sem, List.take_zero, List.filter_nil, usort_nil, List.map_nil]) (by simp [noMem])) ?_ ?_
  · intro k x hx hk hm htk hlt hw
    have hx' := ints_at hx
    have hH := rHasN_D b x hb
    have hP := put_okN ((a.take k).filter fun x => inL b x) x (by have := List.length_filter_le (fun x => inL b x) (a.take k); rw [List.length_take] at this; omega)
    have hst : (a.take (k + 1)).filter (fun x => inL b x) = (a.take k).filter (fun x => inL b x) ++ if inL b x = true then [x] else [] := by
      rw [htk, List.filter_append]
      cases h : inL b x <;> simp [h]
    rw [show (b.any fun y => y == x) = inL b x from rfl] at hH
    cases t1 : inL b x
    · rw [t1] at hH
      rw [t1, if_neg (by decide), List.append_nil] at hst
      (repeat' (first | refine kA ?_ | refine kB ?_ | ((first | (refine kC (N := 26) rfl (by kernel_rfl) ?_) | refine kD ?_ | refine kE ?_ | (refine kN (hH) (kP rfl) ?_) | (refine kO (hH) (kP rfl) ?_) | (refine kN (hP) (kP rfl) ?_) | (refine kO (hP) (kP rfl) ?_)); simp +decide only [go_sem, hlt, hw, hx']) | (apply kG; (simp +decide only [go_sem, hlt, hw, hx']; rfl); all_goals (intro hcnd; first | (exact absurd hcnd (by decide)) | skip))))
      exact kL rfl (by simp +decide only [go_sem, hst]) (by simp [noMem])
    · rw [t1] at hH
      rw [t1, if_pos rfl] at hst
      (repeat' (first | refine kA ?_ | refine kB ?_ | ((first | (refine kC (N := 26) rfl (by kernel_rfl) ?_) | refine kD ?_ | refine kE ?_ | (refine kN (hH) (kP rfl) ?_) | (refine kO (hH) (kP rfl) ?_) | (refine kN (hP) (kP rfl) ?_) | (refine kO (hP) (kP rfl) ?_)); simp +decide only [go_sem, hlt, hw, hx']) | (apply kG; (simp +decide only [go_sem, hlt, hw, hx']; rfl); all_goals (intro hcnd; first | (exact absurd hcnd (by decide)) | skip))))
      exact kL rfl (by simp +decide only [go_sem, hst]) (by simp [noMem])
  · intro hlt
    rw [List.take_length]
    (repeat' (first | refine kA ?_ | refine kB ?_ | ((first | (refine kC (N := 26) rfl (by kernel_rfl) ?_) | refine kD ?_ | refine kE ?_ | refine kF ?_); simp +decide only [go_sem, hlt]) | (apply kG; (simp +decide only [go_sem, hlt]; rfl); all_goals (intro hcnd; first | (exact absurd hcnd (by decide)) | skip))))
    rfl

set_option maxRecDepth 10000 in
set_option maxHeartbeats 4000000 in
theorem up_D (xs : List Int) (hl : xs.length ≤ 999999) (hs : xs.Pairwise (· < ·)) : DCalls Tryd.prog 30 [dv (.sl 1 (ints xs))] (dv (lb true)) := by
  have hmax : maxLen = 9223372036854775807 := rfl
  refine dcalls (N := 20) (rs := [.tmp 2]) (by kernel_rfl) Tryd.func30 rfl rfl rfl (by simp) ?_
  (repeat' (first | refine kA ?_ | refine kB ?_ | ((first | (refine kC (N := 20) rfl (by kernel_rfl) ?_) | (apply kJ (id := 4) (N := 20) kpm0; kernel_rfl; rfl; kernel_rfl; (repeat (first | exact Picks.nil | (apply Picks.cons; rfl)))) | refine kD ?_ | refine kE ?_); simp +decide only [go_sem]) | (apply kG; (simp +decide only [go_sem]; rfl); all_goals (intro hcnd; first | (exact absurd hcnd (by decide)) | skip))))
  refine dw_loop_fam (fun m : Nat => kn 20 [(0, dv (.sl 1 (ints xs))), (3, dv (li m))] noMem) (fun m => 1 ≤ m ∧ m ≤ 1000000) (fun m => 1000000 - m) 1 (kL rfl (by simp +decide only [go_sem]) (by simp [noMem])) ⟨by omega, by omega⟩ ?_
  rintro m ⟨hm1, hm2⟩
  cases t1 : decide ((m : Int) < (xs.length : Int))
  · (repeat' (first | refine kA ?_ | refine kB ?_ | ((first | (refine kC (N := 20) rfl (by kernel_rfl) ?_) | (apply kJ (id := 4) (N := 20) kpm0; kernel_rfl; rfl; kernel_rfl; (repeat (first | exact Picks.nil | (apply Picks.cons; rfl)))) | refine kD ?_ | refine kE ?_ | refine kF ?_); simp +decide only [go_sem, t1]) | (apply kG; (simp +decide only [go_sem, t1]; rfl); all_goals (intro hcnd; first | (exact absurd hcnd (by decide)) | skip))))
  have hml : m < xs.length := by simpa using t1
  have hx := ints_at (List.getElem?_eq_getElem hml)
  have hy := ints_at (List.getElem?_eq_getElem (show m - 1 < xs.length by omega))
  have hw1 : IntKind.wrap .i64 ((m : Int) - 1) = ((m - 1 : Nat) : Int) := by rw [wrap_i64 (by omega) (by omega)]; omega
  have hw2 := wrap_succ m (by omega)
  have hlt := List.pairwise_iff_getElem.1 hs (m - 1) m (by omega) hml (by omega)
  have hge : decide (xs[m] ≤ xs[m - 1]) = false := by simp; omega
  (repeat' (first | refine kA ?_ | refine kB ?_ | ((first | (refine kC (N := 20) rfl (by kernel_rfl) ?_) | (apply kJ (id := 4) (N := 20) kpm0; kernel_rfl; rfl; kernel_rfl; (repeat (first | exact Picks.nil | (apply Picks.cons; rfl)))) | refine kD ?_ | refine kE ?_); simp +decide only [go_sem, t1, hw1, hw2, hx, hy, hge]) | (apply kG; (simp +decide only [go_sem, t1, hw1, hw2, hx, hy, hge]; rfl); all_goals (intro hcnd; first | (exact absurd hcnd (by decide)) | skip))))
  exact ⟨m + 1, ⟨by omega, by omega⟩, by omega, kL rfl (by simp +decide only [go_sem]) (by simp [noMem])⟩

set_option maxRecDepth 10000 in
theorem clip_D (n lo hi : Int) : DCalls Tryd.prog 11 [dv (li n), dv (li lo), dv (li hi)] (dv (li (clipI n lo hi))) := by
  refine dcalls (N := 16) (rs := [.tmp 6]) (by kernel_rfl) Tryd.func11 rfl rfl rfl (by simp) ?_
  cases t1 : decide (hi < lo)
  · have h1 : ¬ lo > hi := by simpa using t1
    (repeat' (first | refine kA ?_ | refine kB ?_ | ((first | (refine kC (N := 16) rfl (by kernel_rfl) ?_) | refine kD ?_ | refine kE ?_ | refine kF ?_); simp +decide only [go_sem, t1]) | (apply kG; (simp +decide only [go_sem, t1]; rfl); all_goals (intro hcnd; first | (exact absurd hcnd (by decide)) | skip))))
    unfold clipI
    congr 4
    repeat' split
    all_goals omega
  · have h1 : lo > hi := by simpa using t1
    (repeat' (first | refine kA ?_ | refine kB ?_ | ((first | (refine kC (N := 16) rfl (by kernel_rfl) ?_) | refine kD ?_ | refine kE ?_ | refine kF ?_); simp +decide only [go_sem, t1]) | (apply kG; (simp +decide only [go_sem, t1]; rfl); all_goals (intro hcnd; first | (exact absurd hcnd (by decide)) | skip))))
    rw [clipI, if_pos (.inl h1)]

set_option maxRecDepth 10000 in
theorem rClip_D (n lo hi : Int) : DCalls Tryd.prog 12 [dv (li n), dv (li lo), dv (li hi)] (dv (li (clipI n lo hi))) := by
  refine dcalls (N := 21) (rs := [.tmp 6]) (by kernel_rfl) Tryd.func12 rfl rfl rfl (by simp) ?_
  cases t1 : decide (hi < lo)
  rotate_left
  · (repeat' (first | refine kA ?_ | refine kB ?_ | ((first | (refine kC (N := 21) rfl (by kernel_rfl) ?_) | refine kD ?_ | refine kE ?_ | refine kF ?_); simp +decide only [go_sem, t1]) | (apply kG; (simp +decide only [go_sem, t1]; rfl); all_goals (intro hcnd; first | (exact absurd hcnd (by decide)) | skip)) | ((first | refine kH ?_ ?_ | refine kI ?_ ?_) <;> (intro hcnd; simp +decide only [go_sem, hcnd, t1]))))
    rw [clipI, if_pos (.inl (by simpa using t1))]
  cases t2 : decide (n < lo)
  rotate_left
  · (repeat' (first | refine kA ?_ | refine kB ?_ | ((first | (refine kC (N := 21) rfl (by kernel_rfl) ?_) | refine kD ?_ | refine kE ?_ | refine kF ?_); simp +decide only [go_sem, t1, t2]) | (apply kG; (simp +decide only [go_sem, t1, t2]; rfl); all_goals (intro hcnd; first | (exact absurd hcnd (by decide)) | skip)) | ((first | refine kH ?_ ?_ | refine kI ?_ ?_) <;> (intro hcnd; simp +decide only [go_sem, hcnd, t1, t2]))))
    rw [clipI, if_pos (.inr (by simpa using t2))]
  have h12 : ¬ (lo > hi ∨ n < lo) := by simp at t1 t2; omega
  cases t3 : decide (hi < n)
  · (repeat' (first | refine kA ?_ | refine kB ?_ | ((first | (refine kC (N := 21) rfl (by kernel_rfl) ?_) | refine kD ?_ | refine kE ?_ | refine kF ?_); simp +decide only [go_sem, t1, t2, t3]) | (apply kG; (simp +decide only [go_sem, t1, t2, t3]; rfl); all_goals (intro hcnd; first | (exact absurd hcnd (by decide)) | skip)) | ((first | refine kH ?_ ?_ | refine kI ?_ ?_) <;> (intro hcnd; simp +decide only [go_sem, hcnd, t1, t2, t3]))))
    rw [clipI, if_neg h12, if_neg (by simpa using t3)]
  · (repeat' (first | refine kA ?_ | refine kB ?_ | ((first | (refine kC (N := 21) rfl (by kernel_rfl) ?_) | refine kD ?_ | refine kE ?_ | refine kF ?_); simp +decide only [go_sem, t1, t2, t3]) | (apply kG; (simp +decide only [go_sem, t1, t2, t3]; rfl); all_goals (intro hcnd; first | (exact absurd hcnd (by decide)) | skip)) | ((first | refine kH ?_ ?_ | refine kI ?_ ?_) <;> (intro hcnd; simp +decide only [go_sem, hcnd, t1, t2, t3]))))
    rw [clipI, if_neg h12, if_pos (by simpa using t3)]

set_option maxRecDepth 10000 in
theorem contains_D (xs : List Int) (n : Int) (hx : xs.length ≤ maxLen) : DCalls Tryd.prog 37 [dv (.sl 1 (ints xs)), dv (li n)] (dv (lb (inL xs n))) := by
  have hI := idxI_D xs n hx
  have e : decide ((0 : Int) ≤ idxF (fun x => n == x) xs) = inL xs n := by
    have : (fun x : Int => n == x) = fun x => x == n := by funext x; rw [Bool.eq_iff_iff]; simp; exact eq_comm
    rw [this]
    unfold idxF inL
    cases xs.any fun x => x == n <;> simp
  refine dcalls (N := 9) (rs := [.tmp 4]) (by kernel_rfl) Tryd.func37 rfl rfl rfl (by simp) ?_
  (repeat' (first | refine kA ?_ | refine kB ?_ | ((first | (refine kC (N := 9) rfl (by kernel_rfl) ?_) | refine kD ?_ | refine kE ?_ | (refine kN (hI) (kP rfl) ?_) | (refine kO (hI) (kP rfl) ?_) | refine kF ?_); simp +decide only [go_sem, e]) | (apply kG; (simp +decide only [go_sem, e]; rfl); all_goals (intro hcnd; first | (exact absurd hcnd (by decide)) | skip))))

set_option maxRecDepth 10000 in
theorem hasN_D (xs : List Int) (n : Int) (hx : xs.length ≤ maxLen) : DCalls Tryd.prog 22 [dv (.sl 1 (ints xs)), dv (li n)] (dv (lb (inL xs n))) := by
  have hI := contains_D xs n hx
  refine dcalls (N := 8) (rs := [.tmp 4]) (by kernel_rfl) Tryd.func22 rfl rfl rfl (by simp) ?_
  (repeat' (first | refine kA ?_ | refine kB ?_ | ((first | (refine kC (N := 8) rfl (by kernel_rfl) ?_) | refine kD ?_ | refine kE ?_ | (refine kN (hI) (kP rfl) ?_) | (refine kO (hI) (kP rfl) ?_) | refine kF ?_); simp +decide only [go_sem]) | (apply kG; (simp +decide only [go_sem]; rfl); all_goals (intro hcnd; first | (exact absurd hcnd (by decide)) | skip))))

set_option maxRecDepth 10000 in
theorem few01_D (a b : List Int) : DCalls Tryd.prog 18 [dv (.sl 1 (ints a)), dv (.sl 1 (ints b))] (dv (lb (decide ((a.length : Int) ≤ 200) && decide ((b.length : Int) ≤ 200)))) := by
  refine dcalls (N := 13) (rs := [.tmp 4]) (by kernel_rfl) Tryd.func18 rfl rfl rfl (by simp) ?_
  cases t1 : decide ((a.length : Int) ≤ 200)
  · (repeat' (first | refine kA ?_ | refine kB ?_ | ((first | (refine kC (N := 13) rfl (by kernel_rfl) ?_) | refine kD ?_ | refine kE ?_ | refine kF ?_); simp +decide only [go_sem, t1]) | (apply kG; (simp +decide only [go_sem, t1]; rfl); all_goals (intro hcnd; first | (exact absurd hcnd (by decide)) | skip)) | ((first | refine kH ?_ ?_ | refine kI ?_ ?_) <;> (intro hcnd; simp +decide only [go_sem, hcnd, t1]))))
  · (repeat' (first | refine kA ?_ | refine kB ?_ | ((first | (refine kC (N := 13) rfl (by kernel_rfl) ?_) | refine kD ?_ | refine kE ?_ | refine kF ?_); simp +decide only [go_sem, t1]) | (apply kG; (simp +decide only [go_sem, t1]; rfl); all_goals (intro hcnd; first | (exact absurd hcnd (by decide)) | skip)) | ((first | refine kH ?_ ?_ | refine kI ?_ ?_) <;> (intro hcnd; simp +decide only [go_sem, hcnd, t1]))))
end Go.Proofs.YtfliennlinngeaaDoor

/- Numerals: the library's; Parse. -/
namespace Go.Proofs.YtfliennlinngeaaDoor
open Go.Dl Go.RowKit
attribute [local irreducible] DW DCalls ECalls wk IW

def numB (n : Int) : ByteArray := ⟨(Lib.itoa n).toArray⟩
theorem numB_list (n : Int) : (numB n).data.toList = Lib.itoa n := by simp [numB]
theorem pow_tab {w : World} {K : KSet} (h : KOk w K) : Lib.TabIs Tryd.prog w "internal/strconv.uint64pow10" .u64 Lib.pow10Tab := by
  have hg : gtab 3 = some (Lib.pow10Tab.map fun z => Value.int .u64 z) := rfl
  obtain ⟨cs, e, m, h1, h2⟩ := h.z 3 (by simp [ztab]) _ hg
  have hn : Program.globalNamed Tryd.prog "internal/strconv.uint64pow10" = some 3 := by kernel_rfl
  have hcs : cs = (Lib.pow10Tab.map fun z => Value.int .u64 z).toArray := by
    apply Array.ext'
    refine List.ext_getElem? fun o => ?_
    rcases Nat.lt_or_ge o (Lib.pow10Tab.map fun z => Value.int .u64 z).length with ho | ho
    · have h3 := (h.g 3 _ hg o _ (List.getElem?_eq_getElem ho)).2.2
      rw [List.getElem?_eq_getElem ho]
      simp only [World.cell?, h1] at h3
      rw [Array.getElem?_toList]; exact (if_neg (by simp)).symm.trans h3
    · rw [List.getElem?_eq_none (by rw [Array.length_toList, h2]; exact ho), List.getElem?_eq_none ho]
  rw [Lib.TabIs, World.var?, hn]
  simp only [Option.bind_some, h1, hcs]

set_option maxRecDepth 100000 in
theorem itoa_D (n : Int) (h0 : -9223372036854775808 ≤ n) (h1 : n ≤ 9223372036854775807) : DCalls Tryd.prog 32 [dv (li n)] (dv (ls (numB n))) := by
  refine dcalls_below (by kernel_rfl) rfl fun w K vs hk hl hv => ?_
  obtain ⟨v, rfl⟩ : ∃ v, vs = #[v] := by
    match vs, hl with
    | ⟨[v]⟩, _ => exact ⟨v, rfl⟩
  have h2 := (hv 0 _ v rfl rfl).lit
  subst h2
  refine (Go.Proofs.Any.strconv_Itoa Tryd.laysI n h0 h1 w (pow_tab hk)).mono ?_
  rintro e w' ⟨rfl, k, os, rfl⟩
  refine ⟨rfl, ?_⟩
  exact ⟨rfl, rfl, rfl, by simp [Sort.grow, World.drewN], fun b hb => by simp [Sort.grow, World.drewN, Array.getElem?_append, hb]⟩

set_option maxRecDepth 10000 in
--F16
theorem textN_D (n : Int) (h0 : -9223372036854775808 ≤ n) (h1 : n ≤ 9223372036854775807) : DCalls Tryd.prog 16 [dv (li n)] (dv (ls (numB n))) := by
  have hI := itoa_D n h0 h1
  refine dcalls (N := 5) (rs := [.tmp 2]) (by kernel_rfl) Tryd.func16 rfl rfl rfl (by simp) ?_
  (repeat' (first | (refine dw_seq ?_) | (refine dw_block ?_) | ((first | (refine dw_reg (N := 5) rfl (by kernel_rfl) ?_) | (refine dw_skip ?_) | (refine dw_exit ?_) | (refine CallC.mk (hI) (LeL.of_eq rfl) ?_) | (refine CallC.light (hI) (LeL.of_eq rfl) ?_) | (refine dw_ret ?_)); simp (decide := true) only [go_sem, reduceIte, reduceCtorEq, Nat.reduceEqDiff, Nat.reduceAdd, Nat.reduceMul, Nat.reduceSub, Nat.reduceLeDiff, Nat.reduceBEq]) | (apply dw_cond; (simp (decide := true) only [go_sem, reduceIte, reduceCtorEq, Nat.reduceEqDiff, Nat.reduceAdd, Nat.reduceMul, Nat.reduceSub, Nat.reduceLeDiff, Nat.reduceBEq]; rfl); all_goals (intro hcnd; first | (exact absurd hcnd (by decide)) | skip)) | ((first | refine guardC_f ?_ ?_ | refine guardC_t ?_ ?_) <;> (intro hcnd; simp (decide := true) only [go_sem, reduceIte, reduceCtorEq, Nat.reduceEqDiff, Nat.reduceAdd, Nat.reduceMul, Nat.reduceSub, Nat.reduceLeDiff, Nat.reduceBEq, hcnd]))))

theorem atoi_rng {l : List UInt8} {v : Int} (h : Lib.atoiAll l = .ok v) : -9223372036854775808 ≤ v ∧ v ≤ 9223372036854775807 := by
  unfold Lib.atoiAll at h
  split at h
  · cases h
  · simp only at h
    split at h
    · cases h
    · cases h
    · split at h
      · cases h
      · split at h
        · cases h
        · injection h with h
          rename_i h1 h2
          split at h <;> omega
theorem dcalls_below2 {P : Program} {f : FuncId} {ds : List D} {u u' : Value} (hp : Program.plainF P f = true) (hu : u.oneCell' = true) (hu' : u'.oneCell' = true)
    (h : ∀ (w : World) (K : KSet) (vs : Array Value), KOk w K → vs.size = ds.length → (∀ (j : Nat) d v, ds[j]? = some d → vs[j]? = some v → VD w (E0 K) d v) → Calls P f vs w fun e w' => e = .returned (.tuple #[u, u']) ∧ Below w.heap.size w w') :
    DCalls P f ds (.tup [dv (.lit u), dv (.lit u')]) := by
  unfold DCalls
  refine ⟨hp, fun w K vs hk hl hv => (h w K vs hk hl hv).mono ?_⟩
  rintro e w' ⟨rfl, hb⟩
  have hns : ∀ n b o, ¬ spare ((E0 K).val n) b o := fun n b o ⟨a, len, cap, h1, _⟩ => by simp [E0] at h1
  refine ⟨_, E0 K, rfl, ⟨hb, fun _ _ h => h, fun _ _ _ h => h, below_kok hk hb, fun n b o hs => absurd hs (hns n b o), fun n m b o hs => absurd hs (hns n b o)⟩, .tup _ _ rfl fun j d v h1 h2 => ?_⟩
  match j with
  | 0 => simp at h1 h2; subst h1; subst h2; exact .one _ _ (.c _ _ (.lit _ hu))
  | 1 => simp at h1 h2; subst h1; subst h2; exact .one _ _ (.c _ _ (.lit _ hu'))
  | j + 2 => simp at h1
theorem lim_at {w : World} {K : KSet} (h : KOk w K) : w.cell? ⟨0, 0, none⟩ = some (.int .i64 (-1099511627776)) ∧ w.cell? ⟨0, 1, none⟩ = some (.int .i64 1099511627776) :=
  ⟨(h.g 0 _ rfl 0 _ rfl).2.2, (h.g 0 _ rfl 1 _ rfl).2.2⟩

set_option maxHeartbeats 4000000 in
set_option maxRecDepth 100000 in
theorem parse_bad (s : ByteArray) (hs : s.size ≤ 281474976710656) (h : ∀ v, Lib.atoiAll s.data.toList ≠ .ok v) {w : World} {K : KSet} (hk : KOk w K) : Calls Tryd.prog 14 #[.string s] w fun e w' => e = .returned (.tuple #[.int .i64 0, .bool false]) ∧ Below w.heap.size w w' := by
  rcases h1 : Lib.atoiAll s.data.toList with v | _ | _
  · exact absurd h1 (h v)
  · obtain ⟨_, ev, h2, h3⟩ := hk.e 1 (by simp [etab])
    go_enter Tryd.func14, Tryd.ntmps14
    go_wp2_with (go_at_call 31; refine (Go.Proofs.Any.strconv_Atoi_syntax Tryd.laysA s hs h1 ev _ ?_ h3).mono ?_)
    · exact h2
    rintro e W1 ⟨N, rfl, -, -, hb⟩
    go_wp2
    go_ret2
    exact ⟨rfl, hb⟩
  · obtain ⟨_, ev, h2, h3⟩ := hk.e 2 (by simp [etab])
    go_enter Tryd.func14, Tryd.ntmps14
    go_wp2_with (go_at_call 31; refine (Go.Proofs.Any.strconv_Atoi_range Tryd.laysA s hs h1 ev _ ?_ h3).mono ?_)
    · exact h2
    rintro e W1 ⟨N, rfl, -, -, hb⟩
    go_wp2
    go_ret2
    exact ⟨rfl, hb⟩

set_option maxHeartbeats 4000000 in
set_option maxRecDepth 100000 in
theorem parse_good (s : ByteArray) (hs : s.size ≤ 281474976710656) (v : Int) (h : Lib.atoiAll s.data.toList = .ok v) {w : World} {K : KSet} (hk : KOk w K) : Calls Tryd.prog 14 #[.string s] w fun e w' => e = .returned (.tuple #[.int .i64 (parseP s.data.toList).1, .bool (parseP s.data.toList).2]) ∧ Below w.heap.size w w' := by
  obtain ⟨r0, r1⟩ := atoi_rng h
  have hP : parseP s.data.toList = if okN v s.data.toList then (v, true) else (0, false) := by rw [parseP, h]
  obtain ⟨⟨A, B⟩, hAB⟩ : ∃ x, parseP s.data.toList = x := ⟨_, rfl⟩
  rw [hAB]
  rw [hAB] at hP
  have hT : ∀ W : World, KOk W K → Calls Tryd.prog 16 #[.int .i64 v] W fun e w' => e = .returned (.string (numB v)) ∧ Below W.heap.size W w' := fun W hW =>
    calls_lit (textN_D v r0 r1) hW rfl fun j d u h1 h2 => by
      match j with
      | 0 => simp at h1 h2; subst h1; subst h2; exact .one _ _ (.c _ _ (.lit _ rfl))
      | _ + 1 => simp at h1
  go_enter Tryd.func14, Tryd.ntmps14
  go_wp2_with (go_at_call 31; refine (Go.Proofs.Any.strconv_Atoi_ok Tryd.laysA s (by omega) v h _).mono ?_)
  rintro e W1 ⟨rfl, hw⟩
  have hb1 : Below w.heap.size w W1 := by
    rcases hw with rfl | ⟨t, rfl⟩
    · exact Below.refl _ _
    · exact Lib.bytesWorld_below _ _ _
  have hk1 := below_kok hk hb1
  go_wp2_with (go_at_call 16; refine (hT _ hk1).mono ?_)
  rintro e W2 ⟨rfl, hb2⟩
  have hb12 : Below w.heap.size w W2 := hb1.trans (hb2.mono hb1.size)
  obtain ⟨l0, l1⟩ := lim_at (below_kok hk hb12)
  have hl : s.data.toList = Lib.itoa v ↔ numB v = s := by
    constructor
    · intro e; rw [numB, ← e]
    · intro e; rw [← e, numB_list]
  by_cases e1 : numB v = s
  · have f1 : (numB v != s) = false := by rw [bne, (bytes_eq _ _).2 e1]; rfl
    have f2 : s.data.toList = Lib.itoa v := hl.2 e1
    by_cases e2 : v < -1099511627776
    · rw [if_neg (fun h => by have := h.2.1; omega)] at hP
      injection hP with hA hB
      subst hA hB
      go_wp2
      go_ret2
      exact ⟨rfl, hb12⟩
    · by_cases e3 : 1099511627776 < v
      · rw [if_neg (fun h => by have := h.2.2; omega)] at hP
        injection hP with hA hB
        subst hA hB
        go_wp2
        go_ret2
        exact ⟨rfl, hb12⟩
      · rw [if_pos ⟨f2.symm, by omega, by omega⟩] at hP
        injection hP with hA hB
        subst hA hB
        go_wp2
        go_ret2
        exact ⟨rfl, hb12⟩
  · have f1 : ((numB v).toList == s.toList) = false := by rw [← beq_toListBytes]; exact bytes_ne e1
    have f2 : ¬ (numB v).toList = s.toList := by simpa using f1
    rw [if_neg (fun h => e1 (hl.1 h.1.symm))] at hP
    injection hP with hA hB
    subst hA hB
    go_wp2
    all_goals first | exact absurd ‹(numB v).toList = s.toList› f2 | (go_ret2; exact ⟨rfl, hb12⟩)

theorem parse_D (s : ByteArray) (hs : s.size ≤ 281474976710656) : DCalls Tryd.prog 14 [dv (ls s)] (.tup [dv (li (parseP s.data.toList).1), dv (lb (parseP s.data.toList).2)]) := by
  refine dcalls_below2 (by kernel_rfl) rfl rfl fun w K vs hk hl hv => ?_
  obtain ⟨v, rfl⟩ : ∃ v, vs = #[v] := by
    match vs, hl with
    | ⟨[v]⟩, _ => exact ⟨v, rfl⟩
  have h0 := (hv 0 _ v rfl rfl).lit
  subst h0
  rcases h : Lib.atoiAll s.data.toList with v | _ | _
  · exact parse_good s hs v h hk
  · have hn : ∀ v, Lib.atoiAll s.data.toList ≠ .ok v := fun v e => by rw [h] at e; cases e
    rw [show parseP s.data.toList = (0, false) by rw [parseP, h]]
    exact parse_bad s hs hn hk
  · have hn : ∀ v, Lib.atoiAll s.data.toList ≠ .ok v := fun v e => by rw [h] at e; cases e
    rw [show parseP s.data.toList = (0, false) by rw [parseP, h]]
    exact parse_bad s hs hn hk
end Go.Proofs.YtfliennlinngeaaDoor

/- Numerals: the reference's. -/
namespace Go.Proofs.YtfliennlinngeaaDoor
open Go.Dl Go.Lib
attribute [local irreducible] DW DCalls ECalls wk IW

theorem app_bytes (a b : List UInt8) : (⟨a.toArray⟩ : ByteArray) ++ ⟨b.toArray⟩ = ⟨(a ++ b).toArray⟩ := by
  apply ByteArray.ext
  simp
theorem one_byte (c : UInt8) (a : List UInt8) : (⟨#[c]⟩ : ByteArray) ++ ⟨a.toArray⟩ = ⟨(c :: a).toArray⟩ := app_bytes [c] a
theorem natAbs_tdiv (k : Int) : (k.tdiv 10).natAbs = k.natAbs / 10 := by rw [Int.natAbs_tdiv]; rfl

theorem dd_len0 : ∀ u : Nat, (decDigits u).length ≤ u + 1 := by
  intro u
  induction u using Nat.strongRecOn with
  | _ u ih =>
    by_cases h : u < 10
    · rw [dd_small h]; simp
    · rw [dd_big h]; have := ih (u / 10) (by omega); simp; omega
theorem dd_len (u : Nat) : (decDigits u).length ≤ u / 10 + 2 := by
  by_cases h : u < 10
  · rw [dd_small h]; simp
  · rw [dd_big h]; have := dd_len0 (u / 10); simp; omega

set_option maxRecDepth 10000 in
set_option maxHeartbeats 4000000 in
--F17
theorem rText_D (n : Int) (h0 : -9223372036854775808 ≤ n) (h1 : n ≤ 9223372036854775807) : DCalls Tryd.prog 17 [dv (li n)] (dv (ls (numB n))) := by
  have hmax : maxLen = 9223372036854775807 := rfl
  refine dcalls (N := 31) (rs := [.tmp 2]) (by kernel_rfl) Tryd.func17 rfl rfl rfl (by simp) ?_
  cases t0 : n == 0
  rotate_left
  · have : n = 0 := by simpa using t0
    subst this
    (repeat' (first | (refine dw_seq ?_) | (refine dw_block ?_) | ((first | (refine dw_reg (N := 31) rfl (by kernel_rfl) ?_) | (refine dw_skip ?_) | (refine dw_exit ?_) | (refine dw_ret ?_)); simp (decide := true) only [go_sem, reduceIte, reduceCtorEq, Nat.reduceEqDiff, Nat.reduceAdd, Nat.reduceMul, Nat.reduceSub, Nat.reduceLeDiff, Nat.reduceBEq]) | (apply dw_cond; (simp (decide := true) only [go_sem, reduceIte, reduceCtorEq, Nat.reduceEqDiff, Nat.reduceAdd, Nat.reduceMul, Nat.reduceSub, Nat.reduceLeDiff, Nat.reduceBEq]; rfl); all_goals (intro hcnd; first | (exact absurd hcnd (by decide)) | skip)) | ((first | refine guardC_f ?_ ?_ | refine guardC_t ?_ ?_) <;> (intro hcnd; simp (decide := true) only [go_sem, reduceIte, reduceCtorEq, Nat.reduceEqDiff, Nat.reduceAdd, Nat.reduceMul, Nat.reduceSub, Nat.reduceLeDiff, Nat.reduceBEq, hcnd]))))
    rw [show numB 0 = ⟨#[48]⟩ by rw [numB, itoa_pos (by decide), dd_small (by decide)]; rfl]
  have hn : n ≠ 0 := by simpa using t0
  (repeat' (first | (refine dw_seq ?_) | (refine dw_block ?_) | ((first | (refine dw_reg (N := 31) rfl (by kernel_rfl) ?_) | (refine dw_skip ?_) | (refine dw_exit ?_)); simp (decide := true) only [go_sem, reduceIte, reduceCtorEq, Nat.reduceEqDiff, Nat.reduceAdd, Nat.reduceMul, Nat.reduceSub, Nat.reduceLeDiff, Nat.reduceBEq, t0]) | (apply dw_cond; (simp (decide := true) only [go_sem, reduceIte, reduceCtorEq, Nat.reduceEqDiff, Nat.reduceAdd, Nat.reduceMul, Nat.reduceSub, Nat.reduceLeDiff, Nat.reduceBEq, t0]; rfl); all_goals (intro hcnd; first | (exact absurd hcnd (by decide)) | skip)) | ((first | refine guardC_f ?_ ?_ | refine guardC_t ?_ ?_) <;> (intro hcnd; simp (decide := true) only [go_sem, reduceIte, reduceCtorEq, Nat.reduceEqDiff, Nat.reduceAdd, Nat.reduceMul, Nat.reduceSub, Nat.reduceLeDiff, Nat.reduceBEq, hcnd, t0]))))
  refine dw_loop_fam (fun p : Int × List UInt8 => kn 31 [(0, dv (li n)), (3, dv (ls ⟨p.2.toArray⟩)), (4, dv (li p.1))] noMem) (fun p => (-9223372036854775808 ≤ p.1 ∧ p.1 ≤ 9223372036854775807) ∧ (if p.1 = 0 then p.2 = decDigits n.natAbs else decDigits p.1.natAbs ++ p.2 = decDigits n.natAbs)) (fun p => p.1.natAbs) (n, []) (sub_kn rfl (by simp (decide := true) only [go_sem, reduceIte, reduceCtorEq, Nat.reduceEqDiff, Nat.reduceAdd, Nat.reduceMul, Nat.reduceSub, Nat.reduceLeDiff, Nat.reduceBEq]) (by simp [noMem])) ⟨⟨h0, h1⟩, by rw [if_neg hn, List.append_nil]⟩ ?_
  rintro ⟨k, acc⟩ ⟨⟨hk0, hk1⟩, hacc⟩
  simp only at hk0 hk1 hacc
  have hal : acc.length ≤ 4000000000000000000 := by
    have h2 := dd_len n.natAbs
    have h3 : acc.length ≤ (decDigits n.natAbs).length := by
      split at hacc
      · rw [hacc]; exact Nat.le_refl _
      · rw [← hacc]; simp
    omega
  have r1 : ∀ c : UInt8, (#[c].size + acc.toArray.size ≤ maxLen) = True := fun c => eq_true (by simp; omega)
  cases t1 : k != 0
  · have hk : k = 0 := by simpa using t1
    rw [if_pos hk] at hacc
    cases t2 : decide (n < 0)
    · (repeat' (first | (refine dw_seq ?_) | (refine dw_block ?_) | ((first | (refine dw_reg (N := 31) rfl (by kernel_rfl) ?_) | (refine dw_skip ?_) | (refine dw_exit ?_) | (refine dw_ret ?_)); simp (decide := true) only [go_sem, reduceIte, reduceCtorEq, Nat.reduceEqDiff, Nat.reduceAdd, Nat.reduceMul, Nat.reduceSub, Nat.reduceLeDiff, Nat.reduceBEq, t1, t2]) | (apply dw_cond; (simp (decide := true) only [go_sem, reduceIte, reduceCtorEq, Nat.reduceEqDiff, Nat.reduceAdd, Nat.reduceMul, Nat.reduceSub, Nat.reduceLeDiff, Nat.reduceBEq, t1, t2]; rfl); all_goals (intro hcnd; first | (exact absurd hcnd (by decide)) | skip)) | ((first | refine guardC_f ?_ ?_ | refine guardC_t ?_ ?_) <;> (intro hcnd; simp (decide := true) only [go_sem, reduceIte, reduceCtorEq, Nat.reduceEqDiff, Nat.reduceAdd, Nat.reduceMul, Nat.reduceSub, Nat.reduceLeDiff, Nat.reduceBEq, hcnd, t1, t2]))))
      rw [numB, itoa_pos (by simpa using t2), hacc]
    · (repeat' (first | (refine dw_seq ?_) | (refine dw_block ?_) | ((first | (refine dw_reg (N := 31) rfl (by kernel_rfl) ?_) | (refine dw_skip ?_) | (refine dw_exit ?_) | (refine dw_ret ?_)); simp (decide := true) only [go_sem, reduceIte, reduceCtorEq, Nat.reduceEqDiff, Nat.reduceAdd, Nat.reduceMul, Nat.reduceSub, Nat.reduceLeDiff, Nat.reduceBEq, t1, t2, r1, one_byte]) | (apply dw_cond; (simp (decide := true) only [go_sem, reduceIte, reduceCtorEq, Nat.reduceEqDiff, Nat.reduceAdd, Nat.reduceMul, Nat.reduceSub, Nat.reduceLeDiff, Nat.reduceBEq, t1, t2, r1, one_byte]; rfl); all_goals (intro hcnd; first | (exact absurd hcnd (by decide)) | skip)) | ((first | refine guardC_f ?_ ?_ | refine guardC_t ?_ ?_) <;> (intro hcnd; simp (decide := true) only [go_sem, reduceIte, reduceCtorEq, Nat.reduceEqDiff, Nat.reduceAdd, Nat.reduceMul, Nat.reduceSub, Nat.reduceLeDiff, Nat.reduceBEq, hcnd, t1, t2, r1, one_byte]))))
      rw [numB, itoa_neg (by simpa using t2), ← hacc]
  · have hk : k ≠ 0 := by simpa using t1
    rw [if_neg hk, dd_cons (by omega)] at hacc
    have hq := natAbs_tdiv k
    have hw : IntKind.i64.wrap (k.tdiv 10) = k.tdiv 10 := wrap_i64 (by omega) (by omega)
    have hstep : (if k.tdiv 10 = 0 then UInt8.ofNat (48 + k.natAbs % 10) :: acc = decDigits n.natAbs else decDigits (k.tdiv 10).natAbs ++ (UInt8.ofNat (48 + k.natAbs % 10) :: acc) = decDigits n.natAbs) := by
      split
      · rename_i h; rw [if_pos (by omega)] at hacc; simpa using hacc
      · rename_i h; rw [if_neg (by omega)] at hacc; rw [hq]; simpa using hacc
    have hd : (k.tmod 10).natAbs = k.natAbs % 10 := by rw [Int.natAbs_tmod]; rfl
    have h8 : IntKind.u8.wrap (48 + ((k.natAbs % 10 : Nat) : Int)) = ((48 + k.natAbs % 10 : Nat) : Int) := by
      show (48 + ((k.natAbs % 10 : Nat) : Int)) % 256 = _
      omega
    have hw48 : IntKind.i64.wrap (48 + ((k.natAbs % 10 : Nat) : Int)) = 48 + ((k.natAbs % 10 : Nat) : Int) := wrap_i64 (by omega) (by omega)
    cases t2 : decide (k.tmod 10 < 0)
    · have e1 : k.tmod 10 = ((k.natAbs % 10 : Nat) : Int) := by simp at t2; omega
      have hz : decide (((k.natAbs % 10 : Nat) : Int) < 0) = false := by simp; omega
      (repeat' (first | (refine dw_seq ?_) | (refine dw_block ?_) | ((first | (refine dw_reg (N := 31) rfl (by kernel_rfl) ?_) | (refine dw_skip ?_) | (refine dw_exit ?_)); simp (decide := true) only [go_sem, reduceIte, reduceCtorEq, Nat.reduceEqDiff, Nat.reduceAdd, Nat.reduceMul, Nat.reduceSub, Nat.reduceLeDiff, Nat.reduceBEq, t1, hz, e1, hw, hw48, h8, r1, one_byte, Int.toNat_natCast]) | (apply dw_cond; (simp (decide := true) only [go_sem, reduceIte, reduceCtorEq, Nat.reduceEqDiff, Nat.reduceAdd, Nat.reduceMul, Nat.reduceSub, Nat.reduceLeDiff, Nat.reduceBEq, t1, hz, e1, hw, hw48, h8, r1, one_byte, Int.toNat_natCast]; rfl); all_goals (intro hcnd; first | (exact absurd hcnd (by decide)) | skip)) | ((first | refine guardC_f ?_ ?_ | refine guardC_t ?_ ?_) <;> (intro hcnd; simp (decide := true) only [go_sem, reduceIte, reduceCtorEq, Nat.reduceEqDiff, Nat.reduceAdd, Nat.reduceMul, Nat.reduceSub, Nat.reduceLeDiff, Nat.reduceBEq, hcnd, t1, hz, e1, hw, hw48, h8, r1, one_byte, Int.toNat_natCast]))))
      exact ⟨(k.tdiv 10, UInt8.ofNat (48 + k.natAbs % 10) :: acc), ⟨⟨by simp only; omega, by simp only; omega⟩, hstep⟩, by simp only; omega, sub_kn rfl (by simp (decide := true) only [go_sem, reduceIte, reduceCtorEq, Nat.reduceEqDiff, Nat.reduceAdd, Nat.reduceMul, Nat.reduceSub, Nat.reduceLeDiff, Nat.reduceBEq]) (by simp [noMem])⟩
    · have e1 : IntKind.i64.wrap (0 - k.tmod 10) = ((k.natAbs % 10 : Nat) : Int) := by simp at t2; rw [wrap_i64 (by omega) (by omega)]; omega
      (repeat' (first | (refine dw_seq ?_) | (refine dw_block ?_) | ((first | (refine dw_reg (N := 31) rfl (by kernel_rfl) ?_) | (refine dw_skip ?_) | (refine dw_exit ?_)); simp (decide := true) only [go_sem, reduceIte, reduceCtorEq, Nat.reduceEqDiff, Nat.reduceAdd, Nat.reduceMul, Nat.reduceSub, Nat.reduceLeDiff, Nat.reduceBEq, t1, t2, e1, hw, hw48, h8, r1, one_byte, Int.toNat_natCast]) | (apply dw_cond; (simp (decide := true) only [go_sem, reduceIte, reduceCtorEq, Nat.reduceEqDiff, Nat.reduceAdd, Nat.reduceMul, Nat.reduceSub, Nat.reduceLeDiff, Nat.reduceBEq, t1, t2, e1, hw, hw48, h8, r1, one_byte, Int.toNat_natCast]; rfl); all_goals (intro hcnd; first | (exact absurd hcnd (by decide)) | skip)) | ((first | refine guardC_f ?_ ?_ | refine guardC_t ?_ ?_) <;> (intro hcnd; simp (decide := true) only [go_sem, reduceIte, reduceCtorEq, Nat.reduceEqDiff, Nat.reduceAdd, Nat.reduceMul, Nat.reduceSub, Nat.reduceLeDiff, Nat.reduceBEq, hcnd, t1, t2, e1, hw, hw48, h8, r1, one_byte, Int.toNat_natCast]))))
      exact ⟨(k.tdiv 10, UInt8.ofNat (48 + k.natAbs % 10) :: acc), ⟨⟨by simp only; omega, by simp only; omega⟩, hstep⟩, by simp only; omega, sub_kn rfl (by simp (decide := true) only [go_sem, reduceIte, reduceCtorEq, Nat.reduceEqDiff, Nat.reduceAdd, Nat.reduceMul, Nat.reduceSub, Nat.reduceLeDiff, Nat.reduceBEq]) (by simp [noMem])⟩

theorem parseR_none {L : List UInt8} (h : rdR 0 (if isM L = true then L.tail else L) = none) : parseR L = (0, false) := by rw [parseR, h]
theorem parseR_some {L : List UInt8} {u : Nat} (h : rdR 0 (if isM L = true then L.tail else L) = some u) : parseR L = if itoa (sgn L u) = L then (sgn L u, true) else (0, false) := by rw [parseR, h]
def atN (L : List UInt8) : Nat := if isM L = true then 1 else 0
theorem atN_drop (L : List UInt8) : (if isM L = true then L.tail else L) = L.drop (atN L) := by
  unfold atN; split <;> simp
theorem at_test (L : List UInt8) : (((atN L : Nat) : Int) == 1) = isM L := by
  unfold atN; cases isM L <;> rfl

set_option maxRecDepth 10000 in
set_option maxHeartbeats 8000000 in
--F15
theorem rParse_D (s : ByteArray) (hs : s.size ≤ 300) : DCalls Tryd.prog 15 [dv (ls s)] (.tup [dv (li (parseR s.data.toList).1), dv (lb (parseR s.data.toList).2)]) := by
  have hmax : maxLen = 9223372036854775807 := rfl
  obtain ⟨L, hL⟩ : ∃ L, s.data.toList = L := ⟨_, rfl⟩
  have hsz : s.size = L.length := by rw [← hL]; simp
  rw [hL]
  refine dcalls (N := 51) (rs := [.tmp 2, .tmp 3]) (by kernel_rfl) Tryd.func15 rfl rfl rfl (by simp) ?_
  refine dw_seq ?_
  refine dw_reg (N := 51) rfl (by kernel_rfl) ?_; simp (decide := true) only [go_sem, reduceIte, reduceCtorEq, Nat.reduceEqDiff, Nat.reduceAdd, Nat.reduceMul, Nat.reduceSub, Nat.reduceLeDiff, Nat.reduceBEq]
  refine dw_seq ?_
  refine dw_reg (N := 51) rfl (by kernel_rfl) ?_; simp (decide := true) only [go_sem, reduceIte, reduceCtorEq, Nat.reduceEqDiff, Nat.reduceAdd, Nat.reduceMul, Nat.reduceSub, Nat.reduceLeDiff, Nat.reduceBEq]
  refine dw_seq ?_
  refine dw_afterN (fun _ : Unit => kn 51 [(0, dv (ls s)), (4, dv (li (atN L)))] noMem) (fun _ => True) ?_ ?_
  · cases L with
    | nil =>
      have t0 : decide ((0 : Int) < (s.size : Int)) = false := by simp at hsz; simp [hsz]
      (repeat' (first | (refine dw_seq ?_) | (refine dw_block ?_) | ((first | (refine dw_reg (N := 51) rfl (by kernel_rfl) ?_) | (refine dw_skip ?_) | (refine dw_exit ?_)); simp (decide := true) only [go_sem, reduceIte, reduceCtorEq, Nat.reduceEqDiff, Nat.reduceAdd, Nat.reduceMul, Nat.reduceSub, Nat.reduceLeDiff, Nat.reduceBEq, t0]) | (apply dw_cond; (simp (decide := true) only [go_sem, reduceIte, reduceCtorEq, Nat.reduceEqDiff, Nat.reduceAdd, Nat.reduceMul, Nat.reduceSub, Nat.reduceLeDiff, Nat.reduceBEq, t0]; rfl); all_goals (intro hcnd; first | (exact absurd hcnd (by decide)) | skip)) | ((first | refine guardC_f ?_ ?_ | refine guardC_t ?_ ?_) <;> (intro hcnd; simp (decide := true) only [go_sem, reduceIte, reduceCtorEq, Nat.reduceEqDiff, Nat.reduceAdd, Nat.reduceMul, Nat.reduceSub, Nat.reduceLeDiff, Nat.reduceBEq, hcnd, t0]))))
      exact ⟨(), sub_kn rfl (by simp (decide := true) only [go_sem, reduceIte, reduceCtorEq, Nat.reduceEqDiff, Nat.reduceAdd, Nat.reduceMul, Nat.reduceSub, Nat.reduceLeDiff, Nat.reduceBEq, atN, isM]) (by simp [noMem])⟩
    | cons c r =>
      have t0 : decide ((0 : Int) < (s.size : Int)) = true := by simp at hsz; simp [hsz]
      have hc : s.data.toList[0]? = some c := by rw [hL]; rfl
      cases t1 : ((c.toNat : Int) == 45)
      · have h1 : atN (c :: r) = 0 := by
          have : isM (c :: r) = false := by
            cases h : isM (c :: r)
            · rfl
            · exfalso
              simp [isM] at h
              rw [h] at t1; exact absurd t1 (by decide)
          rw [atN, this]; rfl
        (repeat' (first | (refine dw_seq ?_) | (refine dw_block ?_) | ((first | (refine dw_reg (N := 51) rfl (by kernel_rfl) ?_) | (refine dw_skip ?_) | (refine dw_exit ?_)); simp (decide := true) only [go_sem, reduceIte, reduceCtorEq, Nat.reduceEqDiff, Nat.reduceAdd, Nat.reduceMul, Nat.reduceSub, Nat.reduceLeDiff, Nat.reduceBEq, t0, t1, hc]) | (apply dw_cond; (simp (decide := true) only [go_sem, reduceIte, reduceCtorEq, Nat.reduceEqDiff, Nat.reduceAdd, Nat.reduceMul, Nat.reduceSub, Nat.reduceLeDiff, Nat.reduceBEq, t0, t1, hc]; rfl); all_goals (intro hcnd; first | (exact absurd hcnd (by decide)) | skip)) | ((first | refine guardC_f ?_ ?_ | refine guardC_t ?_ ?_) <;> (intro hcnd; simp (decide := true) only [go_sem, reduceIte, reduceCtorEq, Nat.reduceEqDiff, Nat.reduceAdd, Nat.reduceMul, Nat.reduceSub, Nat.reduceLeDiff, Nat.reduceBEq, hcnd, t0, t1, hc]))))
        exact ⟨(), sub_kn rfl (by simp (decide := true) only [go_sem, reduceIte, reduceCtorEq, Nat.reduceEqDiff, Nat.reduceAdd, Nat.reduceMul, Nat.reduceSub, Nat.reduceLeDiff, Nat.reduceBEq, h1]) (by simp [noMem])⟩
      · have h1 : atN (c :: r) = 1 := by
          have : isM (c :: r) = true := by
            have h2 : c.toNat = 45 := by simp at t1; omega
            have h3 : c = 45 := UInt8.toNat_inj.1 h2
            rw [h3]; rfl
          rw [atN, this]; rfl
        (repeat' (first | (refine dw_seq ?_) | (refine dw_block ?_) | ((first | (refine dw_reg (N := 51) rfl (by kernel_rfl) ?_) | (refine dw_skip ?_) | (refine dw_exit ?_)); simp (decide := true) only [go_sem, reduceIte, reduceCtorEq, Nat.reduceEqDiff, Nat.reduceAdd, Nat.reduceMul, Nat.reduceSub, Nat.reduceLeDiff, Nat.reduceBEq, t0, t1, hc]) | (apply dw_cond; (simp (decide := true) only [go_sem, reduceIte, reduceCtorEq, Nat.reduceEqDiff, Nat.reduceAdd, Nat.reduceMul, Nat.reduceSub, Nat.reduceLeDiff, Nat.reduceBEq, t0, t1, hc]; rfl); all_goals (intro hcnd; first | (exact absurd hcnd (by decide)) | skip)) | ((first | refine guardC_f ?_ ?_ | refine guardC_t ?_ ?_) <;> (intro hcnd; simp (decide := true) only [go_sem, reduceIte, reduceCtorEq, Nat.reduceEqDiff, Nat.reduceAdd, Nat.reduceMul, Nat.reduceSub, Nat.reduceLeDiff, Nat.reduceBEq, hcnd, t0, t1, hc]))))
        exact ⟨(), sub_kn rfl (by simp (decide := true) only [go_sem, reduceIte, reduceCtorEq, Nat.reduceEqDiff, Nat.reduceAdd, Nat.reduceMul, Nat.reduceSub, Nat.reduceLeDiff, Nat.reduceBEq, h1]) (by simp [noMem])⟩
  rintro _ _
  (repeat' (first | (refine dw_seq ?_) | (refine dw_block ?_) | ((first | (refine dw_reg (N := 51) rfl (by kernel_rfl) ?_) | (refine dw_skip ?_) | (refine dw_exit ?_)); simp (decide := true) only [go_sem, reduceIte, reduceCtorEq, Nat.reduceEqDiff, Nat.reduceAdd, Nat.reduceMul, Nat.reduceSub, Nat.reduceLeDiff, Nat.reduceBEq]) | (apply dw_cond; (simp (decide := true) only [go_sem, reduceIte, reduceCtorEq, Nat.reduceEqDiff, Nat.reduceAdd, Nat.reduceMul, Nat.reduceSub, Nat.reduceLeDiff, Nat.reduceBEq]; rfl); all_goals (intro hcnd; first | (exact absurd hcnd (by decide)) | skip)) | ((first | refine guardC_f ?_ ?_ | refine guardC_t ?_ ?_) <;> (intro hcnd; simp (decide := true) only [go_sem, reduceIte, reduceCtorEq, Nat.reduceEqDiff, Nat.reduceAdd, Nat.reduceMul, Nat.reduceSub, Nat.reduceLeDiff, Nat.reduceBEq, hcnd]))))
  have hat : atN L ≤ 1 := by unfold atN; split <;> omega
  have hdrop := atN_drop L
  refine dw_loop_fam (fun p : Nat × Nat => kn 51 [(0, dv (ls s)), (4, dv (li (atN L))), (5, dv (li (p.2 : Nat))), (6, dv (li (p.1 : Nat)))] noMem) (fun p => p.1 ≤ 301 ∧ p.2 ≤ 1099511627776 ∧ rdR 0 (L.drop (atN L)) = rdR p.2 (L.drop p.1)) (fun p => 301 - p.1) (atN L, 0) (sub_kn rfl (by simp (decide := true) only [go_sem, reduceIte, reduceCtorEq, Nat.reduceEqDiff, Nat.reduceAdd, Nat.reduceMul, Nat.reduceSub, Nat.reduceLeDiff, Nat.reduceBEq]) (by simp [noMem])) ⟨by simp only; omega, by simp only; omega, rfl⟩ ?_
  rintro ⟨k, acc⟩ ⟨hk, hacc, hrd⟩
  simp only at hk hacc hrd
  cases t1 : decide ((k : Int) < (s.size : Int))
  · have hkl : L.length ≤ k := by rw [← hsz]; simpa using t1
    rw [List.drop_eq_nil_of_le hkl, rdR] at hrd
    rw [← hdrop] at hrd
    have hP := parseR_some hrd
    have hT := rText_D (sgn L acc) (by unfold sgn; split <;> omega) (by unfold sgn; split <;> omega)
    have hcmp : (numB (sgn L acc) == s) = decide (itoa (sgn L acc) = L) := by
      rw [Bool.eq_iff_iff, bytes_eq, decide_eq_true_eq]
      constructor
      · intro e
        have e2 := congrArg (fun x : ByteArray => x.data.toList) e
        simp only [numB_list, hL] at e2
        exact e2
      · intro e
        rw [numB, e, ← hL]
    have hneg : IntKind.i64.wrap (0 - (acc : Int)) = -(acc : Int) := by rw [wrap_i64 (by omega) (by omega)]; omega
    have hat2 := at_test L
    rw [hP]
    cases hm : isM L
    · have hsg : sgn L acc = (acc : Int) := by rw [sgn, hm]; rfl
      rw [hsg] at hT hcmp ⊢
      rw [hm] at hat2
      cases h5 : (numB (acc : Int) == s)
      · have h6 : (!(numB (acc : Int) == s)) = true := by rw [h5]; rfl
        rw [h5] at hcmp
        rw [if_neg (of_decide_eq_false hcmp.symm)]
        (repeat' (first | (refine dw_seq ?_) | (refine dw_block ?_) | ((first | (refine dw_reg (N := 51) rfl (by kernel_rfl) ?_) | (refine dw_skip ?_) | (refine dw_exit ?_) | (refine CallC.mk (hT) (LeL.of_eq rfl) ?_) | (refine CallC.light (hT) (LeL.of_eq rfl) ?_) | (refine dw_ret ?_)); simp (decide := true) only [go_sem, reduceIte, reduceCtorEq, Nat.reduceEqDiff, Nat.reduceAdd, Nat.reduceMul, Nat.reduceSub, Nat.reduceLeDiff, Nat.reduceBEq, t1, hat2, h6]) | (apply dw_cond; (simp (decide := true) only [go_sem, reduceIte, reduceCtorEq, Nat.reduceEqDiff, Nat.reduceAdd, Nat.reduceMul, Nat.reduceSub, Nat.reduceLeDiff, Nat.reduceBEq, t1, hat2, h6]; rfl); all_goals (intro hcnd; first | (exact absurd hcnd (by decide)) | skip)) | ((first | refine guardC_f ?_ ?_ | refine guardC_t ?_ ?_) <;> (intro hcnd; simp (decide := true) only [go_sem, reduceIte, reduceCtorEq, Nat.reduceEqDiff, Nat.reduceAdd, Nat.reduceMul, Nat.reduceSub, Nat.reduceLeDiff, Nat.reduceBEq, hcnd, t1, hat2, h6]))))
      · have h6 : (!(numB (acc : Int) == s)) = false := by rw [h5]; rfl
        rw [h5] at hcmp
        rw [if_pos (of_decide_eq_true hcmp.symm)]
        (repeat' (first | (refine dw_seq ?_) | (refine dw_block ?_) | ((first | (refine dw_reg (N := 51) rfl (by kernel_rfl) ?_) | (refine dw_skip ?_) | (refine dw_exit ?_) | (refine CallC.mk (hT) (LeL.of_eq rfl) ?_) | (refine CallC.light (hT) (LeL.of_eq rfl) ?_) | (refine dw_ret ?_)); simp (decide := true) only [go_sem, reduceIte, reduceCtorEq, Nat.reduceEqDiff, Nat.reduceAdd, Nat.reduceMul, Nat.reduceSub, Nat.reduceLeDiff, Nat.reduceBEq, t1, hat2, h6]) | (apply dw_cond; (simp (decide := true) only [go_sem, reduceIte, reduceCtorEq, Nat.reduceEqDiff, Nat.reduceAdd, Nat.reduceMul, Nat.reduceSub, Nat.reduceLeDiff, Nat.reduceBEq, t1, hat2, h6]; rfl); all_goals (intro hcnd; first | (exact absurd hcnd (by decide)) | skip)) | ((first | refine guardC_f ?_ ?_ | refine guardC_t ?_ ?_) <;> (intro hcnd; simp (decide := true) only [go_sem, reduceIte, reduceCtorEq, Nat.reduceEqDiff, Nat.reduceAdd, Nat.reduceMul, Nat.reduceSub, Nat.reduceLeDiff, Nat.reduceBEq, hcnd, t1, hat2, h6]))))
    · have hsg : sgn L acc = -(acc : Int) := by rw [sgn, hm]; rfl
      rw [hsg] at hT hcmp ⊢
      rw [hm] at hat2
      cases h5 : (numB (-(acc : Int)) == s)
      · have h6 : (!(numB (-(acc : Int)) == s)) = true := by rw [h5]; rfl
        rw [h5] at hcmp
        rw [if_neg (of_decide_eq_false hcmp.symm)]
        (repeat' (first | (refine dw_seq ?_) | (refine dw_block ?_) | ((first | (refine dw_reg (N := 51) rfl (by kernel_rfl) ?_) | (refine dw_skip ?_) | (refine dw_exit ?_) | (refine CallC.mk (hT) (LeL.of_eq rfl) ?_) | (refine CallC.light (hT) (LeL.of_eq rfl) ?_) | (refine dw_ret ?_)); simp (decide := true) only [go_sem, reduceIte, reduceCtorEq, Nat.reduceEqDiff, Nat.reduceAdd, Nat.reduceMul, Nat.reduceSub, Nat.reduceLeDiff, Nat.reduceBEq, t1, hat2, hneg, h6]) | (apply dw_cond; (simp (decide := true) only [go_sem, reduceIte, reduceCtorEq, Nat.reduceEqDiff, Nat.reduceAdd, Nat.reduceMul, Nat.reduceSub, Nat.reduceLeDiff, Nat.reduceBEq, t1, hat2, hneg, h6]; rfl); all_goals (intro hcnd; first | (exact absurd hcnd (by decide)) | skip)) | ((first | refine guardC_f ?_ ?_ | refine guardC_t ?_ ?_) <;> (intro hcnd; simp (decide := true) only [go_sem, reduceIte, reduceCtorEq, Nat.reduceEqDiff, Nat.reduceAdd, Nat.reduceMul, Nat.reduceSub, Nat.reduceLeDiff, Nat.reduceBEq, hcnd, t1, hat2, hneg, h6]))))
      · have h6 : (!(numB (-(acc : Int)) == s)) = false := by rw [h5]; rfl
        rw [h5] at hcmp
        rw [if_pos (of_decide_eq_true hcmp.symm)]
        (repeat' (first | (refine dw_seq ?_) | (refine dw_block ?_) | ((first | (refine dw_reg (N := 51) rfl (by kernel_rfl) ?_) | (refine dw_skip ?_) | (refine dw_exit ?_) | (refine CallC.mk (hT) (LeL.of_eq rfl) ?_) | (refine CallC.light (hT) (LeL.of_eq rfl) ?_) | (refine dw_ret ?_)); simp (decide := true) only [go_sem, reduceIte, reduceCtorEq, Nat.reduceEqDiff, Nat.reduceAdd, Nat.reduceMul, Nat.reduceSub, Nat.reduceLeDiff, Nat.reduceBEq, t1, hat2, hneg, h6]) | (apply dw_cond; (simp (decide := true) only [go_sem, reduceIte, reduceCtorEq, Nat.reduceEqDiff, Nat.reduceAdd, Nat.reduceMul, Nat.reduceSub, Nat.reduceLeDiff, Nat.reduceBEq, t1, hat2, hneg, h6]; rfl); all_goals (intro hcnd; first | (exact absurd hcnd (by decide)) | skip)) | ((first | refine guardC_f ?_ ?_ | refine guardC_t ?_ ?_) <;> (intro hcnd; simp (decide := true) only [go_sem, reduceIte, reduceCtorEq, Nat.reduceEqDiff, Nat.reduceAdd, Nat.reduceMul, Nat.reduceSub, Nat.reduceLeDiff, Nat.reduceBEq, hcnd, t1, hat2, hneg, h6]))))
  · have hkl : k < s.size := by simpa using t1
    have hkl2 : k < L.length := by omega
    have hc : s.data.toList[k]? = some L[k] := by rw [hL]; exact List.getElem?_eq_getElem hkl2
    obtain ⟨c, hce⟩ : ∃ c, c = L[k] := ⟨_, rfl⟩
    rw [← hce] at hc
    have hdk : L.drop k = c :: L.drop (k + 1) := by rw [List.drop_eq_getElem_cons hkl2, hce]
    rw [hdk, rdR] at hrd
    have hw := wrap_succ k (by omega)
    have hc8 : c.toNat < 256 := c.toNat_lt
    cases t2 : decide ((c.toNat : Int) < 48)
    rotate_left
    · rw [if_neg (by simp at t2; omega), ← hdrop] at hrd
      rw [parseR_none hrd]
      (repeat' (first | (refine dw_seq ?_) | (refine dw_block ?_) | ((first | (refine dw_reg (N := 51) rfl (by kernel_rfl) ?_) | (refine dw_skip ?_) | (refine dw_exit ?_) | (refine dw_ret ?_)); simp (decide := true) only [go_sem, reduceIte, reduceCtorEq, Nat.reduceEqDiff, Nat.reduceAdd, Nat.reduceMul, Nat.reduceSub, Nat.reduceLeDiff, Nat.reduceBEq, t1, t2, hc, Int.toNat_natCast]) | (apply dw_cond; (simp (decide := true) only [go_sem, reduceIte, reduceCtorEq, Nat.reduceEqDiff, Nat.reduceAdd, Nat.reduceMul, Nat.reduceSub, Nat.reduceLeDiff, Nat.reduceBEq, t1, t2, hc, Int.toNat_natCast]; rfl); all_goals (intro hcnd; first | (exact absurd hcnd (by decide)) | skip)) | ((first | refine guardC_f ?_ ?_ | refine guardC_t ?_ ?_) <;> (intro hcnd; simp (decide := true) only [go_sem, reduceIte, reduceCtorEq, Nat.reduceEqDiff, Nat.reduceAdd, Nat.reduceMul, Nat.reduceSub, Nat.reduceLeDiff, Nat.reduceBEq, hcnd, t1, t2, hc, Int.toNat_natCast]))))
    cases t3 : decide ((57 : Int) < (c.toNat : Int))
    rotate_left
    · rw [if_neg (by simp at t2 t3; omega), ← hdrop] at hrd
      rw [parseR_none hrd]
      (repeat' (first | (refine dw_seq ?_) | (refine dw_block ?_) | ((first | (refine dw_reg (N := 51) rfl (by kernel_rfl) ?_) | (refine dw_skip ?_) | (refine dw_exit ?_) | (refine dw_ret ?_)); simp (decide := true) only [go_sem, reduceIte, reduceCtorEq, Nat.reduceEqDiff, Nat.reduceAdd, Nat.reduceMul, Nat.reduceSub, Nat.reduceLeDiff, Nat.reduceBEq, t1, t2, t3, hc, Int.toNat_natCast]) | (apply dw_cond; (simp (decide := true) only [go_sem, reduceIte, reduceCtorEq, Nat.reduceEqDiff, Nat.reduceAdd, Nat.reduceMul, Nat.reduceSub, Nat.reduceLeDiff, Nat.reduceBEq, t1, t2, t3, hc, Int.toNat_natCast]; rfl); all_goals (intro hcnd; first | (exact absurd hcnd (by decide)) | skip)) | ((first | refine guardC_f ?_ ?_ | refine guardC_t ?_ ?_) <;> (intro hcnd; simp (decide := true) only [go_sem, reduceIte, reduceCtorEq, Nat.reduceEqDiff, Nat.reduceAdd, Nat.reduceMul, Nat.reduceSub, Nat.reduceLeDiff, Nat.reduceBEq, hcnd, t1, t2, t3, hc, Int.toNat_natCast]))))
    rw [if_pos (by simp at t2 t3; omega)] at hrd
    have h48 : 48 ≤ c.toNat := by simp at t2; omega
    have v1 : IntKind.i64.wrap ((acc : Int) * 10) = (acc : Int) * 10 := wrap_i64 (by omega) (by omega)
    have v2 : IntKind.u8.wrap ((c.toNat : Int) - 48) = ((c.toNat - 48 : Nat) : Int) := by
      show ((c.toNat : Int) - 48) % 256 = _
      omega
    have v3 : IntKind.i64.wrap (((c.toNat - 48 : Nat) : Int)) = ((c.toNat - 48 : Nat) : Int) := wrap_i64 (by omega) (by omega)
    have v4 : IntKind.i64.wrap ((acc : Int) * 10 + ((c.toNat - 48 : Nat) : Int)) = ((acc * 10 + (c.toNat - 48) : Nat) : Int) := by
      rw [wrap_i64 (by omega) (by omega)]; omega
    cases t4 : decide ((1099511627776 : Int) < ((acc * 10 + (c.toNat - 48) : Nat) : Int))
    rotate_left
    · rw [if_pos (by have := of_decide_eq_true t4; omega), ← hdrop] at hrd
      rw [parseR_none hrd]
      (repeat' (first | (refine dw_seq ?_) | (refine dw_block ?_) | ((first | (refine dw_reg (N := 51) rfl (by kernel_rfl) ?_) | (refine dw_skip ?_) | (refine dw_exit ?_) | (refine dw_ret ?_)); simp (decide := true) only [go_sem, reduceIte, reduceCtorEq, Nat.reduceEqDiff, Nat.reduceAdd, Nat.reduceMul, Nat.reduceSub, Nat.reduceLeDiff, Nat.reduceBEq, t1, t2, t3, t4, v1, v2, v3, v4, hc, Int.toNat_natCast]) | (apply dw_cond; (simp (decide := true) only [go_sem, reduceIte, reduceCtorEq, Nat.reduceEqDiff, Nat.reduceAdd, Nat.reduceMul, Nat.reduceSub, Nat.reduceLeDiff, Nat.reduceBEq, t1, t2, t3, t4, v1, v2, v3, v4, hc, Int.toNat_natCast]; rfl); all_goals (intro hcnd; first | (exact absurd hcnd (by decide)) | skip)) | ((first | refine guardC_f ?_ ?_ | refine guardC_t ?_ ?_) <;> (intro hcnd; simp (decide := true) only [go_sem, reduceIte, reduceCtorEq, Nat.reduceEqDiff, Nat.reduceAdd, Nat.reduceMul, Nat.reduceSub, Nat.reduceLeDiff, Nat.reduceBEq, hcnd, t1, t2, t3, t4, v1, v2, v3, v4, hc, Int.toNat_natCast]))))
    have h4 := of_decide_eq_false t4
    rw [if_neg (by omega)] at hrd
    (repeat' (first | (refine dw_seq ?_) | (refine dw_block ?_) | ((first | (refine dw_reg (N := 51) rfl (by kernel_rfl) ?_) | (refine dw_skip ?_) | (refine dw_exit ?_)); simp (decide := true) only [go_sem, reduceIte, reduceCtorEq, Nat.reduceEqDiff, Nat.reduceAdd, Nat.reduceMul, Nat.reduceSub, Nat.reduceLeDiff, Nat.reduceBEq, t1, t2, t3, t4, v1, v2, v3, v4, hw, hc, Int.toNat_natCast]) | (apply dw_cond; (simp (decide := true) only [go_sem, reduceIte, reduceCtorEq, Nat.reduceEqDiff, Nat.reduceAdd, Nat.reduceMul, Nat.reduceSub, Nat.reduceLeDiff, Nat.reduceBEq, t1, t2, t3, t4, v1, v2, v3, v4, hw, hc, Int.toNat_natCast]; rfl); all_goals (intro hcnd; first | (exact absurd hcnd (by decide)) | skip)) | ((first | refine guardC_f ?_ ?_ | refine guardC_t ?_ ?_) <;> (intro hcnd; simp (decide := true) only [go_sem, reduceIte, reduceCtorEq, Nat.reduceEqDiff, Nat.reduceAdd, Nat.reduceMul, Nat.reduceSub, Nat.reduceLeDiff, Nat.reduceBEq, hcnd, t1, t2, t3, t4, v1, v2, v3, v4, hw, hc, Int.toNat_natCast]))))
    exact ⟨(k + 1, acc * 10 + (c.toNat - 48)), ⟨by simp only; omega, by simp only; omega, hrd⟩, by simp only; omega, sub_kn rfl (by simp (decide := true) only [go_sem, reduceIte, reduceCtorEq, Nat.reduceEqDiff, Nat.reduceAdd, Nat.reduceMul, Nat.reduceSub, Nat.reduceLeDiff, Nat.reduceBEq]) (by simp [noMem])⟩
end Go.Proofs.YtfliennlinngeaaDoor

/- Lists of numbers joined: slices.Grow, slices.Concat; num.Union. -/
namespace Go.Proofs.YtfliennlinngeaaDoor
open Go.Dl
open Go.Dl renaming dw_seq → kA, dw_block → kB, dw_reg → kC, dw_skip → kD, dw_exit → kE, dw_ret → kF, dw_cond → kG, guardC_f → kH, guardC_t → kI, dw_drw → kJ, dw_weaken → kK, sub_kn → kL, sub_ml → kM
open Go.Dl.CallC renaming mk → kN, light → kO
open Go.Dl.LeL renaming of_eq → kP
open S (usort)
attribute [local irreducible] DW DCalls ECalls wk IW

theorem ba_nil (k sz : Nat) : DLe (.one (.c (.lit (.slice none 0 0)))) (.one (.ba k sz 0 0 0)) := fun w E v h => ba_zero k sz (.inl rfl) h

set_option maxRecDepth 10000 in
theorem grow0_D : DCalls Tryd.prog 47 [dv (.lit (.slice none 0 0)), dv (li 0)] (dv (.lit (.slice none 0 0))) := by
  refine dcalls (N := 27) (rs := [.tmp 4]) (by kernel_rfl) Tryd.func47 rfl rfl rfl (by simp) ?_
  (repeat' (first | refine kA ?_ | refine kB ?_ | ((first | (refine kC (N := 27) rfl (by kernel_rfl) ?_) | refine kD ?_ | refine kE ?_ | refine kF ?_); simp +decide only [go_sem]) | (apply kG; (simp +decide only [go_sem]; rfl); all_goals (intro hcnd; first | (exact absurd hcnd (by decide)) | skip))))

set_option maxRecDepth 10000 in
set_option maxHeartbeats 4000000 in
theorem grow_E (n : Nat) (h0 : 0 < n) (hl : n ≤ 1000000) : ECalls Tryd.prog 47 [dv (.lit (.slice none 0 0)), dv (li (n : Int))] noMem (fun r H' => ∃ j, r = .one (.ba 0 1 0 0 (n + j)) ∧ H' = ml [(0, anyRows (n + j) 1)]) := by
  have hmax : maxLen = 9223372036854775807 := rfl
  have t1 : decide ((n : Int) < 0) = false := by simp
  have t2 : decide ((0 : Int) < (n : Int)) = true := by simp; omega
  have w1 : IntKind.i64.wrap ((n : Int) - IntKind.i64.wrap ((0 : Int) - 0)) = (n : Int) := by
    rw [show IntKind.i64.wrap ((0 : Int) - 0) = 0 from rfl, wrap_i64 (by omega) (by omega)]; omega
  have w2 : IntKind.i64.wrap ((n : Int) - 0) = (n : Int) := by rw [wrap_i64 (by omega) (by omega)]; omega
  refine ecalls (N := 27) (rs := [.tmp 4]) (by kernel_rfl) Tryd.func47 rfl rfl rfl (by simp) ?_
  refine dw_slot 0 (.one (.ba 900 1 0 0 0)) (ba_nil 900 1) ?_
  (repeat' (first | refine kA ?_ | refine kB ?_ | ((first | (refine kC (N := 27) rfl (by kernel_rfl) ?_) | refine kD ?_ | refine kE ?_); simp +decide only [go_sem, t1, t2, w1, w2]) | (apply kG; (simp +decide only [go_sem, t1, t2, w1, w2]; rfl); all_goals (intro hcnd; first | (exact absurd hcnd (by decide)) | skip))))
  refine StepC.mk (Step.appendMk0List (n := 900) (i := 0) (sz := 1) (by_ := 8) (k := n) rfl rfl (by simp +decide only [go_sem]) Tryd.underlying3 (by simp +decide only [go_sem]) (by simp +decide only [go_sem]) h0 (by omega) ?_)
  intro j'
  have hz : (0 ≤ n + j') = True := eq_true (Nat.zero_le _)
  simp +decide only [go_sem, hz, Nat.sub_zero]
  (repeat' (first | refine kA ?_ | refine kB ?_ | ((first | (refine kC (N := 27) rfl (by kernel_rfl) ?_) | refine kD ?_ | refine kE ?_); simp +decide only [go_sem]) | (apply kG; (simp +decide only [go_sem]; rfl); all_goals (intro hcnd; first | (exact absurd hcnd (by decide)) | skip))))
  refine kK (DS.Sub.trans (sub_mv 22 0 (by omega)) (kM (N := 27) (sls := [(4, .one (.ba 0 1 0 0 (n + j')))]) (bxs := [(0, anyRows (n + j') 1)]) rfl (by simp +decide only [go_sem]) (by simp +decide only [go_sem]))) ?_
  refine kF ?_; simp +decide only [go_sem]
  exact ⟨j', rfl, rfl⟩

theorem sumA_le (LL : List (List Int)) (k : Nat) : ((LL.take k).map List.length).sum ≤ (LL.map List.length).sum := by
  have h : (LL.map List.length).sum = ((LL.take k).map List.length).sum + ((LL.drop k).map List.length).sum := by
    rw [← List.sum_append, ← List.map_append, List.take_append_drop]
  omega

theorem len_sum : ∀ {LL : List (List Int)} {a : List Int}, a ∈ LL → a.length ≤ (LL.map List.length).sum
  | b :: LL, a, h => by
    rcases List.mem_cons.1 h with rfl | h
    · simp
    · have := len_sum h; simp; omega
theorem flat_len (LL : List (List Int)) : LL.flatten.length = (LL.map List.length).sum := by simp [List.length_flatten]
theorem cr_ints (xs : List Int) : cr (ints xs) = iRows xs := by simp [cr, iRows]
theorem iRows_c (xs : List Int) : iRows xs = (ints xs).map (List.map T.c) := by simp [iRows]

set_option maxRecDepth 10000 in
set_option maxHeartbeats 8000000 in
theorem concat_D (LL : List (List Int)) (hn : LL.length ≤ 1000) (hl : (LL.map List.length).sum ≤ 1000000) : DCalls Tryd.prog 38 [dv (.sl 1 (LL.map altC))] (dv (.sl 1 (ints LL.flatten))) := by
  have hmax : maxLen = 9223372036854775807 := rfl
  refine dcalls (N := 36) (rs := [.tmp 2]) (by kernel_rfl) Tryd.func38 rfl rfl rfl (by simp) ?_
  (repeat' (first | refine kA ?_ | refine kB ?_ | ((first | (refine kC (N := 36) rfl (by kernel_rfl) ?_) | refine kD ?_ | refine kE ?_); simp +decide only [go_sem]) | (apply kG; (simp +decide only [go_sem]; rfl); all_goals (intro hcnd; first | (exact absurd hcnd (by decide)) | skip))))
  refine dw_after (fun _ : Unit => kn 36 [(0, dv (.sl 1 (LL.map altC))), (3, dv (li (((LL.map List.length).sum : Nat) : Int)))] noMem) (fun _ => True) ?_ ?_
  · refine dw_rng0 LL (fun k => kn 36 [(0, dv (.sl 1 (LL.map altC))), (3, dv (li ((((LL.take k).map List.length).sum : Nat) : Int))), (9, dv (.sl 1 (LL.map altC))), (10, dv (li LL.length)), (11, dv (li k))] noMem) (by omega) (kL rfl (by simp +decide only [go_sem, List.take_zero, List.map_nil, List.sum_nil]) (by simp [noMem])) ?_ ?_
    · intro k a ha hk hm htk hlt hw
      have hle := sumA_le LL (k + 1)
      have hst : ((LL.take (k + 1)).map List.length).sum = ((LL.take k).map List.length).sum + a.length := by rw [htk]; simp
      have w1 : IntKind.i64.wrap ((((LL.take k).map List.length).sum : Nat) + (a.length : Int)) = ((((LL.take (k + 1)).map List.length).sum : Nat) : Int) := by rw [wrap_i64 (by omega) (by omega)]; omega
      have t1 : decide (((((LL.take (k + 1)).map List.length).sum : Nat) : Int) < 0) = false := by simp
      (repeat' (first | refine kA ?_ | refine kB ?_ | ((first | (refine kC (N := 36) rfl (by kernel_rfl) ?_) | refine kD ?_ | refine kE ?_); simp +decide only [go_sem, hlt, hw, ha, w1, t1]) | (apply kG; (simp +decide only [go_sem, hlt, hw, ha, w1, t1]; rfl); all_goals (intro hcnd; first | (exact absurd hcnd (by decide)) | skip))))
      exact kL rfl (by simp +decide only [go_sem]) (by simp [noMem])
    · intro hlt
      rw [List.take_length]
      (repeat' (first | refine kA ?_ | refine kB ?_ | ((first | (refine kC (N := 36) rfl (by kernel_rfl) ?_) | refine kD ?_ | refine kE ?_); simp +decide only [go_sem, hlt]) | (apply kG; (simp +decide only [go_sem, hlt]; rfl); all_goals (intro hcnd; first | (exact absurd hcnd (by decide)) | skip))))
      exact ⟨(), kL rfl (by simp +decide only [go_sem]) (by simp [noMem])⟩
  rintro _ _
  rcases Nat.eq_zero_or_pos (LL.map List.length).sum with h0 | h0
  · have hz : ∀ a ∈ LL, a = [] := fun a ha => by
      have h1 := len_sum ha
      exact List.length_eq_zero_iff.1 (by omega)
    rw [h0]
    (repeat' (first | refine kA ?_ | refine kB ?_ | ((first | (refine kC (N := 36) rfl (by kernel_rfl) ?_) | refine kD ?_ | refine kE ?_ | (refine kN (grow0_D) (kP rfl) ?_) | (refine kO (grow0_D) (kP rfl) ?_)); simp +decide only [go_sem]) | (apply kG; (simp +decide only [go_sem]; rfl); all_goals (intro hcnd; first | (exact absurd hcnd (by decide)) | skip))))
    refine dw_own 6 6 1 (by simp +decide only [go_sem]) ?_
    refine dw_rng0 LL (fun k => kn 36 [(6, .one (.own 6 1 [])), (25, dv (.sl 1 (LL.map altC))), (26, dv (li LL.length)), (27, dv (li k))] noMem) (by omega) (kL rfl (by simp +decide only [go_sem]) (by simp [noMem])) ?_ ?_
    · intro k a ha hk hm htk hlt hw
      have ha0 := hz a hm
      subst ha0
      (repeat' (first | refine kA ?_ | refine kB ?_ | ((first | (refine kC (N := 36) rfl (by kernel_rfl) ?_) | refine kD ?_ | refine kE ?_); simp +decide only [go_sem, hlt, hw, ha]) | (apply kG; (simp +decide only [go_sem, hlt, hw, ha]; rfl); all_goals (intro hcnd; first | (exact absurd hcnd (by decide)) | skip))))
      exact kL rfl (by simp +decide only [go_sem]) (by simp [noMem])
    · intro hlt
      have hf : LL.flatten = [] := List.flatten_eq_nil_iff.2 hz
      (repeat' (first | refine kA ?_ | refine kB ?_ | ((first | (refine kC (N := 36) rfl (by kernel_rfl) ?_) | refine kD ?_ | refine kE ?_); simp +decide only [go_sem, hlt]) | (apply kG; (simp +decide only [go_sem, hlt]; rfl); all_goals (intro hcnd; first | (exact absurd hcnd (by decide)) | skip))))
      refine dw_slot 2 (dv (.sl 1 [])) (DLe.own_ _ _ _) ?_
      refine kF ?_; simp +decide only [go_sem, hf]
  · (repeat (first | refine kA ?_ | refine kB ?_ | ((first | (refine kC (N := 36) rfl (by kernel_rfl) ?_) | refine kD ?_ | refine kE ?_); simp +decide only [go_sem])))
    refine CallC.eff [] (grow_E (LL.map List.length).sum h0 hl) rfl (DLeL.of_eq (by simp +decide only [go_sem])) (fun k r h => by cases h) (by constructor <;> simp) ?_
    rintro r H' ⟨j, rfl, rfl⟩
    simp +decide only [go_sem]
    refine kK (s' := kn 36 [(0, dv (.sl 1 (LL.map altC))), (6, .one (.ba 24 1 0 0 (0 + ((LL.map List.length).sum + j))))] (ml [(24, iRows [] ++ anyRows ((LL.map List.length).sum + j) 1)])) (kM rfl (by simp +decide only [go_sem, Nat.zero_add]) (by simp +decide only [go_sem, callMemAft, iRows])) ?_
    (repeat' (first | refine kA ?_ | refine kB ?_ | ((first | (refine kC (N := 36) rfl (by kernel_rfl) ?_) | refine kD ?_ | refine kE ?_); simp +decide only [go_sem]) | (apply kG; (simp +decide only [go_sem]; rfl); all_goals (intro hcnd; first | (exact absurd hcnd (by decide)) | skip))))
    refine dw_loop_fam (fun p : Nat × Nat => kn 36 [(6, .one (.ba 24 1 0 (LL.take p.1).flatten.length ((LL.take p.1).flatten.length + p.2))), (25, dv (.sl 1 (LL.map altC))), (26, dv (li LL.length)), (27, dv (li (p.1 : Nat)))] (ml [(24, iRows (LL.take p.1).flatten ++ anyRows p.2 1)])) (fun p => p.1 ≤ LL.length) (fun p => LL.length - p.1) (0, (LL.map List.length).sum + j) (kM rfl (by simp +decide only [go_sem, List.take_zero, List.flatten_nil, List.length_nil]) (by simp +decide only [go_sem, List.take_zero, List.flatten_nil])) (Nat.zero_le _) ?_
    rintro ⟨k, q⟩ hk
    simp only at hk
    cases hlt : decide ((k : Int) < (LL.length : Int))
    · have hke : LL.length ≤ k := by simpa using hlt
      rw [List.take_of_length_le hke]
      (repeat' (first | refine kA ?_ | refine kB ?_ | ((first | (refine kC (N := 36) rfl (by kernel_rfl) ?_) | refine kD ?_ | refine kE ?_); simp +decide only [go_sem, hlt]) | (apply kG; (simp +decide only [go_sem, hlt]; rfl); all_goals (intro hcnd; first | (exact absurd hcnd (by decide)) | skip))))
      refine dw_frz 24 1 (ints LL.flatten) (anyRows q 1) (by decide) (by simp +decide only [go_sem, iRows_c]) (fun r hr => by obtain ⟨x, _, rfl⟩ := List.mem_map.1 hr; rfl) ?_
      have hle : LL.flatten.length ≤ (ints LL.flatten).length := Nat.le_of_eq (List.length_map ..).symm
      have htk : (ints LL.flatten).take LL.flatten.length = ints LL.flatten := List.take_of_length_le (Nat.le_of_eq (List.length_map ..))
      refine kF ?_; simp +decide only [go_sem, hle, htk]
    · have hkl : k < LL.length := by simpa using hlt
      obtain ⟨a, ha⟩ : ∃ a, LL[k]? = some a := ⟨_, List.getElem?_eq_getElem hkl⟩
      have hw := wrap_succ k (by omega)
      have htk : (LL.take (k + 1)).flatten = (LL.take k).flatten ++ a := by rw [take_snoc ha]; simp
      have hle : (LL.take k).flatten.length + a.length ≤ 1000000 := by
        have h1 := sumA_le LL (k + 1)
        have h2 := flat_len (LL.take (k + 1))
        rw [htk, List.length_append] at h2
        omega
      (repeat' (first | refine kA ?_ | refine kB ?_ | ((first | (refine kC (N := 36) rfl (by kernel_rfl) ?_) | refine kD ?_ | refine kE ?_); simp +decide only [go_sem, hlt, ha, hw]) | (apply kG; (simp +decide only [go_sem, hlt, ha, hw]; rfl); all_goals (intro hcnd; first | (exact absurd hcnd (by decide)) | skip))))
      refine StepC.mk (Step.appendList (n := 24) (rows := iRows (LL.take k).flatten) (ys := cr (ints a)) (j := q) (sz := 1) (by_ := 8) rfl rfl (by simp +decide only [go_sem]) (by simp +decide only [go_sem, S.iRows_len]) (by simp +decide only [go_sem]) (S.iRows_sz _) (srcSl (by simp +decide only [go_sem])) (by rw [S.iRows_len, cr_len, List.length_map]; omega) ?_)
      intro j'
      simp +decide only [go_sem, S.iRows_len, cr_len, List.length_map]
      (repeat' (first | refine kA ?_ | refine kB ?_ | ((first | (refine kC (N := 36) rfl (by kernel_rfl) ?_) | refine kD ?_ | refine kE ?_); simp +decide only [go_sem, hlt, ha, hw]) | (apply kG; (simp +decide only [go_sem, hlt, ha, hw]; rfl); all_goals (intro hcnd; first | (exact absurd hcnd (by decide)) | skip))))
      refine ⟨(k + 1, j'), by simp only; omega, by simp only; omega, DS.Sub.trans (sub_mv 33 24 (by decide)) (kM rfl (by simp +decide only [go_sem, htk, List.length_append]) (by simp +decide only [go_sem, htk, S.iRows_app, cr_ints, List.append_assoc]))⟩

set_option maxRecDepth 10000 in
theorem union_D (a b : List Int) (hl : a.length + b.length ≤ 999999) : DCalls Tryd.prog 24 [dv (.sl 1 (ints a)), dv (.sl 1 (ints b))] (dv (.sl 1 (ints (uniI a b)))) := by
  have hC := concat_D [a, b] (by simp) (by simp; omega)
  have hS := S.sorted_D (a ++ b) (by simp; omega)
  simp only [List.map_cons, List.map_nil, List.flatten_cons, List.flatten_nil, List.append_nil] at hC
  refine dcalls (N := 10) (rs := [.tmp 4]) (by kernel_rfl) Tryd.func24 rfl rfl rfl (by simp) ?_
  (repeat' (first | refine kA ?_ | refine kB ?_ | ((first | (refine kC (N := 10) rfl (by kernel_rfl) ?_) | refine kD ?_ | refine kE ?_ | (refine kN (hC) (kP rfl) ?_) | (refine kO (hC) (kP rfl) ?_) | (refine kN (hS) (kP rfl) ?_) | (refine kO (hS) (kP rfl) ?_) | refine kF ?_); simp +decide only [go_sem]) | (apply kG; (simp +decide only [go_sem]; rfl); all_goals (intro hcnd; first | (exact absurd hcnd (by decide)) | skip))))
  rfl
end Go.Proofs.YtfliennlinngeaaDoor

/- Lists of numbers: the copy of an empty one. -/
namespace Go.Proofs.YtfliennlinngeaaDoor
open Go.Dl
open Go.Dl renaming dw_seq → kA, dw_block → kB, dw_reg → kC, dw_skip → kD, dw_exit → kE, dw_ret → kF, dw_cond → kG, guardC_f → kH, guardC_t → kI, dw_drw → kJ, dw_weaken → kK, sub_kn → kL, sub_ml → kM
open Go.Dl.CallC renaming mk → kN, light → kO
open Go.Dl.LeL renaming of_eq → kP
attribute [local irreducible] DW DCalls ECalls wk IW

set_option maxRecDepth 10000 in
set_option maxHeartbeats 2000000 in
theorem clone0_D : DCalls Tryd.prog 49 [dv (.sl 1 [])] (dv (.sl 1 [])) := by
  refine dcalls (N := 8) (rs := [.tmp 2]) (by kernel_rfl) Tryd.func49 rfl rfl rfl (by simp) ?_
  refine dw_emp (sz := 1) 0 (by simp +decide only [go_sem]) ?_ (fun a cap hcap => ?_)
  · (repeat (first | refine kA ?_ | refine kB ?_ | ((first | (refine kC (N := 8) rfl (by kernel_rfl) ?_) | refine kD ?_ | refine kE ?_); simp +decide only [go_sem])))
    apply kG; (simp +decide only [go_sem]; rfl)
    · intro _
      (repeat (first | refine kA ?_ | refine kB ?_ | ((first | (refine kC (N := 8) rfl (by kernel_rfl) ?_) | refine kD ?_ | refine kE ?_); simp +decide only [go_sem])))
      refine dw_slot 2 (dv (.sl 1 [])) (DLe.nil_ 1) ?_
      refine kF ?_; simp +decide only [go_sem]
    · simp
  · (repeat (first | refine kA ?_ | refine kB ?_ | ((first | (refine kC (N := 8) rfl (by kernel_rfl) ?_) | refine kD ?_ | refine kE ?_); simp +decide only [go_sem])))
    apply kG; (simp +decide only [go_sem]; rfl)
    · simp
    intro _
    refine kD ?_
    simp +decide only [go_sem]
    refine kK (s' := kn 8 [(0, dv (.sl 1 []))] noMem) (kL rfl ⟨.inr (by simp +decide only [go_sem]; exact DLe.emp 1 hcap), trivial⟩ (by simp [noMem])) ?_
    refine kA ?_
    refine dw_regM (N := 8) [.hand] rfl (by kernel_rfl) ?_
    simp +decide only [go_sem]
    refine StepC.mk (Step.buildNone (sz := 1) rfl rfl (by simp +decide only [go_sem]) ?_)
    simp +decide only [go_sem]
    refine StepC.mk (Step.appendList (n := 5) (sz := 1) (by_ := 8) (rows := []) (j := 0) (ys := []) rfl rfl (by simp +decide only [go_sem]) (by simp +decide only [go_sem]) (by simp +decide only [go_sem]) (by simp [RowsSz]) (srcSl (ys := []) (by simp +decide only [go_sem])) (by simp) ?_)
    intro j'
    simp +decide only [go_sem]
    (repeat' (first | refine kA ?_ | refine kB ?_ | ((first | (refine kC (N := 8) rfl (by kernel_rfl) ?_) | refine kD ?_ | refine kE ?_); simp +decide only [go_sem]) | (apply kG; (simp +decide only [go_sem]; rfl); all_goals (intro hcnd; first | (exact absurd hcnd (by decide)) | skip))))
    refine dw_frz 7 1 [] (anyRows j' 1) (by decide) (by simp +decide only [go_sem]) (by simp) ?_
    have h0 : (0 ≤ 0) = True := by simp
    refine kF ?_; simp +decide only [go_sem, List.take_nil, List.length_nil, List.take_zero]
end Go.Proofs.YtfliennlinngeaaDoor

/- Lists of numbers: the library's copies and cuts, at the machine; the set of a list as a map. -/
namespace Go.Proofs.YtfliennlinngeaaDoor
open Go.RowKit Go.Maps Go.Lib Go.Sort
open Go.Dl hiding Rows
attribute [local irreducible] DW DCalls ECalls wk IW

def mapOf (xs : List Int) : DataW Unit := setOf (.lit (.bool true)) (xs.map fun x => Lit.int .i64 x)
theorem mapOf_nil : mapOf [] = .map [] := rfl
theorem mapOf_snoc (xs : List Int) (x : Int) : mapOf (xs ++ [x]) = (mapOf xs).put (.int .i64 x) (.lit (.bool true)) := by
  unfold mapOf; rw [List.map_append, List.map_cons, List.map_nil, setOf_snoc]
def wfI (x : Int) : Prop := (Lit.int .i64 x).wf = true
theorem isMap_fold : ∀ (acc : List Lit) (m : DataW Unit), IsMap m → IsMap (acc.foldl (fun m x => m.put x (.lit (.bool true))) m)
  | [], _, h => h
  | x :: r, m, h => isMap_fold r _ (h.put x _)
theorem mapOf_isMap (xs : List Int) : IsMap (mapOf xs) := isMap_fold _ _ isMap_empty
theorem inL_snoc (b : List Int) (x n : Int) : inL (b ++ [x]) n = (inL b n || x == n) := by simp [inL]
theorem mapOf_at (n : Int) : ∀ (m : Nat) (xs : List Int), xs.length = m → (mapOf xs).atKey (.int .i64 n) (.lit (.bool false)) = .lit (.bool (inL xs n)) := by
  intro m
  induction m with
  | zero => intro xs h; rw [List.length_eq_zero_iff.1 h]; rfl
  | succ m ih =>
    intro xs h
    obtain ⟨ys, y, rfl⟩ : ∃ ys y, xs = ys ++ [y] := ⟨xs.dropLast, xs.getLast (by intro e; rw [e] at h; simp at h), (List.dropLast_concat_getLast _).symm⟩
    have hl : ys.length = m := by simp at h; omega
    rw [mapOf_snoc, inL_snoc]
    by_cases e : n = y
    · subst e
      rw [atKey_put_same (mapOf_isMap ys) (by simp [WideAt.IsKeyLit])]
      simp
    · rw [atKey_put_other (by intro e2; injection e2 with _ e2; exact e e2), ih ys hl]
      have : (y == n) = false := by simp; exact fun e2 => e e2.symm
      rw [this, Bool.or_false]

abbrev I64 := { x : Int // wfI x }
instance : Inhabited I64 := ⟨⟨0, by show (Lit.int .i64 0).wf = true; decide⟩⟩
def encI (x : I64) : Value := .int .i64 x.1
theorem encI_one : OneCell encI := fun _ => rfl
theorem law3 : Keyed Tryd.prog 3 := int_keyed Tryd.underlying3
theorem zero4 (w : World) : (zeroValue 4).run Tryd.prog w = .ok (.bool false) w := by kernel_rfl
theorem eg50 : ∀ args w, (callFunc 50 args).run Tryd.prog w = .ok (.enter 50 args) w := enters_of Tryd.func50 (by kernel_rfl) rfl

set_option maxRecDepth 100000 in
theorem gives50 (b : List Int) (wanted : Bool) (B7 B5 bm n : Nat) (x : I64) (W : World) (h7 : W.cell? ⟨B7, 0, none⟩ = some (.map (some bm))) (h5 : W.cell? ⟨B5, 0, none⟩ = some (.bool wanted)) (hown : W.ownsMap Tryd.prog 3 (plainElem (H := Unit) Tryd.prog 4) bm n (mapOf b)) :
    FnGives Tryd.prog 50 #[.pointer (some ⟨B7, 0, none⟩), .pointer (some ⟨B5, 0, none⟩)] #[encI x] (.bool (inL b x.1 != wanted)) W := by
  obtain ⟨x, hx⟩ := x
  show Calls Tryd.prog 50 #[.int .i64 x, .pointer (some ⟨B7, 0, none⟩), .pointer (some ⟨B5, 0, none⟩)] W _
  obtain ⟨v, ps, hrun, hv⟩ := hown.lookup law3 Tryd.underlying55 (zero4 _) (plainElem_bool Tryd.underlying4 false) (keyOf_int_mk Tryd.underlying3 hx)
  rw [mapOf_at x _ b rfl] at hv
  have hvb : v = .bool (inL b x) := by
    unfold plainElem at hv
    rw [Tryd.underlying4] at hv
    cases v <;> simp at hv
    rw [hv.1]
  subst hvb
  show Calls Tryd.prog 50 #[.int .i64 x, .pointer (some ⟨B7, 0, none⟩), .pointer (some ⟨B5, 0, none⟩)] W fun e w' => e = .returned (.bool (inL b x != wanted)) ∧ ∃ q, w' = W.drewN q
  go_enter Tryd.func50, Tryd.ntmps50
  go_wp2
  all_goals (go_ret; exact ⟨by cases inL b x <;> cases wanted <;> rfl, 0, rfl⟩)

theorem pred50 (b : List Int) (wanted : Bool) (B7 B5 bm n : Nat) (w : World) (g7 : B7 < w.heap.size) (g5 : B5 < w.heap.size) (h7 : w.cell? ⟨B7, 0, none⟩ = some (.map (some bm))) (h5 : w.cell? ⟨B5, 0, none⟩ = some (.bool wanted)) (hown : w.ownsMap Tryd.prog 3 (plainElem (H := Unit) Tryd.prog 4) bm n (mapOf b)) :
    PredAt Tryd.prog 50 #[.pointer (some ⟨B7, 0, none⟩), .pointer (some ⟨B5, 0, none⟩)] encI (fun x => inL b x.1 != wanted) w := fun W x hb =>
  gives50 b wanted B7 B5 bm n x W ((hb.cell (p := ⟨B7, 0, none⟩) g7).trans h7) ((hb.cell (p := ⟨B5, 0, none⟩) g5).trans h5) (by
    obtain ⟨es, clock, e1, e2⟩ := hown
    exact ⟨es, clock, (hb.block bm (Array.getElem?_eq_some_iff.1 e1).1).trans e1, e2⟩)
theorem heap_putRow_other {α : Type} [Inhabited α] (enc : α → Value) (w : World) (blk off : Nat) (d : Array α) {b : Nat} (h : b ≠ blk) : (putRow enc w blk off d).heap[b]? = w.heap[b]? := by
  simp [putRow, mapBlock, Array.getElem?_modify, Ne.symm h]
theorem over50 (b : List Int) (wanted : Bool) (B7 B5 bm n : Nat) (blk off size : Nat) (w : World) (g7 : B7 < w.heap.size) (g5 : B5 < w.heap.size) (n7 : B7 ≠ blk) (n5 : B5 ≠ blk) (nm : bm ≠ blk) (h7 : w.cell? ⟨B7, 0, none⟩ = some (.map (some bm))) (h5 : w.cell? ⟨B5, 0, none⟩ = some (.bool wanted)) (hown : w.ownsMap Tryd.prog 3 (plainElem (H := Unit) Tryd.prog 4) bm n (mapOf b)) :
    PredOver Tryd.prog 50 #[.pointer (some ⟨B7, 0, none⟩), .pointer (some ⟨B5, 0, none⟩)] encI (fun x => inL b x.1 != wanted) blk off size w := fun q os dk x _ => by
  have cel : ∀ B, B < w.heap.size → B ≠ blk → (sortWorld encI w blk off q dk os).cell? ⟨B, 0, none⟩ = w.cell? ⟨B, 0, none⟩ := fun B hB hne => by
    unfold sortWorld
    rw [cell?_grow _ _ _ (by show B < (putRow _ _ _ _ _).heap.size; rw [size_putRow]; exact hB), cell?_putRow_other _ _ blk off _ _ (Or.inl hne)]
    rfl
  refine gives50 b wanted B7 B5 bm n x _ ((cel B7 g7 n7).trans h7) ((cel B5 g5 n5).trans h5) ?_
  obtain ⟨es, clock, e1, e2⟩ := hown
  refine ⟨es, clock, ?_, e2⟩
  have hlt := (Array.getElem?_eq_some_iff.1 e1).1
  unfold sortWorld
  rw [heap_grow_old _ _ (by rw [size_putRow]; exact hlt), heap_putRow_other _ _ _ _ _ nm]
  exact e1

def valsI (l : List I64) : List Int := l.map (·.1)
def CL (l : List I64) (B : Nat) (v : Value) (W : World) : Prop :=
  (l = [] ∧ (v = .slice none 0 0 ∨ ∃ a c, v = .slice (some a) 0 c ∧ c ≤ maxLen)) ∨
  ∃ blk cap, v = .slice (some ⟨blk, 0, none⟩) l.length cap ∧ B ≤ blk ∧ blk < W.heap.size ∧ l.length ≤ cap ∧ cap ≤ maxLen ∧ Holds encI W blk 0 l.toArray

set_option maxRecDepth 100000 in
set_option maxHeartbeats 4000000 in
theorem clone_u (l : List I64) (hl : l.length ≤ 1000000) {w : World} {K : KSet} (hk : KOk w K) {va : Value} (hva : VC w K (.sl 1 (ints (valsI l))) va) {W : World} (hW : Below w.heap.size w W) :
    Calls Tryd.prog 49 #[va] W fun e W' => ∃ vc, e = .returned vc ∧ CL l W.heap.size vc W' ∧ Below W.heap.size W W' := by
  have hlen : (ints (valsI l)).length = l.length := by simp [valsI]
  by_cases hl0 : l = []
  · subst hl0
    have hkW : KOk W K := below_kok hk hW
    have hvW : VC W K (.sl 1 []) va := hva.mono fun b o h => ⟨h, hW.cell (p := ⟨b, o, none⟩) (lt_of_cell (hk b o h))⟩
    have hD := clone0_D
    unfold DCalls at hD
    refine (hD.2 W K #[va] hkW rfl (fun j d v h1 h2 => by
      match j with
      | 0 => simp at h1 h2; subst h1; subst h2; exact .one _ _ (.c _ _ hvW)
      | _ + 1 => simp at h1)).mono ?_
    rintro e W' ⟨v, E', rfl, hR, hv⟩
    refine ⟨v, rfl, .inl ⟨rfl, ?_⟩, hR.below⟩
    cases hv with | one t v hv => cases hv with | c c v hv => cases hv with
      | nil => exact .inl rfl
      | sl _ _ a cap cv hsz hc hm hK hr => exact .inr ⟨a, cap, rfl, hm⟩
  · have hpos : 0 < l.length := List.length_pos_iff.2 hl0
    obtain ⟨a, cap, cv, rfl, hc, hm, hK, hr⟩ : ∃ (a : Addr) (cap : Nat) (cv : Nat → Value), va = .slice (some a) (ints (valsI l)).length cap ∧ (ints (valsI l)).length ≤ cap ∧ cap ≤ maxLen ∧ (∀ j, j < (ints (valsI l)).length * 1 → a.spot = none ∧ K a.block (a.off + j) ∧ w.cell? ⟨a.block, a.off + j, none⟩ = some (cv j)) ∧ (∀ (i j : Nat) r c, (ints (valsI l))[i]? = some r → r[j]? = some c → VC w K c (cv (i * 1 + j))) := by
      rcases hva.sl_inv with ⟨_, h⟩ | ⟨a, cap, cv, h1, _, h2, h3, h4, h5⟩
      · rw [h] at hlen; simp at hlen; omega
      · exact ⟨a, cap, cv, h1, h2, h3, h4, h5⟩
    rw [hlen] at hc hK ⊢
    obtain ⟨blk, off, spot⟩ := a
    obtain rfl : spot = none := (hK 0 (by omega)).1
    have hcv : ∀ j (hj : j < l.length), cv j = encI l[j] := fun j hj => by
      have h1 := hr j 0 [li l[j].1] (li l[j].1) (by simp [valsI, hj]) rfl
      rw [Nat.mul_one, Nat.add_zero] at h1
      exact (VD.one _ _ (VT.c _ _ h1) : VD w (E0 K) (dv (li l[j].1)) (cv j)).lit
    have hcell : ∀ j u, (l.map encI)[j]? = some u → W.cell? ⟨blk, off + j, none⟩ = some u := fun j u hu => by
      rw [List.getElem?_map] at hu
      obtain ⟨x, hx, rfl⟩ := Option.map_eq_some_iff.1 hu
      obtain ⟨hj, rfl⟩ := List.getElem?_eq_some_iff.1 hx
      obtain ⟨_, h2, h3⟩ := hK j (by omega)
      rw [hW.cell (p := ⟨blk, off + j, none⟩) (lt_of_cell (hk _ _ h2)), ← hcv j hj]
      exact h3
    obtain ⟨e3, i0, z, hu, hi, hz0, hz1, hz2, hz3, _, _, _⟩ := appZ_one (P := Tryd.prog) (t := 31) w appInfo_31
    obtain rfl : e3 = 3 := by
      have h := hu.symm.trans Tryd.underlying31
      injection h with h; injection h
    have hC := Go.Proofs.AnyE.slices_Clone Tryd.cloN i0 z 1 8 hi hz0 hz1 hz2 hz3 (by decide) Tryd.sizeOf3 blk off l.length cap (l.map encI) W (by simp) (by unfold maxLen; omega) (by omega) hcell (fun u hu => by obtain ⟨x, _, rfl⟩ := List.mem_map.1 hu; rfl)
    refine Calls.mono hC ?_
    rintro e W' ⟨v', rfl, hown, hnn, hb⟩
    refine ⟨v', rfl, .inr ?_, hb⟩
    obtain ⟨_, h1⟩ := id hown
    rcases h1 with ⟨rfl, h2⟩ | ⟨g, cap', cur, rfl, hg, h3, h4, h5, h6, h7⟩
    · omega
    · refine ⟨g, cap', rfl, hg, (Array.getElem?_eq_some_iff.1 h3).1, h4, h5, fun j hj => ?_⟩
      have hj' : j < l.length := by simpa using hj
      rw [Nat.zero_add]
      refine ⟨?_, hown.frozenAt j⟩
      rw [hown.cellAt j (by omega)]
      simp [hj']

set_option maxRecDepth 100000 in
set_option maxHeartbeats 4000000 in
theorem del_u (p : I64 → Bool) (lb : Array Value) (l : List I64) {B : Nat} {vc : Value} {W : World} (hcl : CL l B vc W) (hB : B ≤ W.heap.size) (hp : PredAt Tryd.prog 50 lb encI p W) (hpo : ∀ blk off size, B ≤ blk → PredOver Tryd.prog 50 lb encI p blk off size W) :
    Calls Tryd.prog 48 #[vc, .func (.func 50) #[] lb] W fun e W' => ∃ vd, e = .returned vd ∧ CL (l.filter fun x => !p x) B vd W' ∧ Below B W W' := by
  rcases hcl with ⟨rfl, hv⟩ | ⟨blk, cap, rfl, hb, hlt, hc, hm, hH⟩
  · have hI : ∀ (A : Option Addr) (c : Nat) (w : World), Calls Tryd.prog 60 #[.slice A 0 c, .func (.func 50) #[] lb] w fun e w' => e = .returned (.int .i64 (-1)) ∧ w' = w := fun A c w =>
      Go.Proofs.AnyE.slices_IndexFunc_empty { Tryd.delF with } A c _ w
    have hE : ∀ (A : Option Addr) (c : Nat), Calls Tryd.prog 48 #[.slice A 0 c, .func (.func 50) #[] lb] W fun e w' => e = .returned (.slice A 0 c) ∧ w' = W := fun A c => by
      go_enter Tryd.func48, Tryd.ntmps48
      go_wp2_with (go_at_call 60; refine (hI A c _).mono ?_; rintro e w' ⟨rfl, rfl⟩)
      go_ret
      exact ⟨rfl, rfl⟩
    rcases hv with rfl | ⟨a, c, rfl, hcm⟩
    · refine (hE none 0).mono ?_
      rintro e w' ⟨rfl, rfl⟩
      exact ⟨_, rfl, .inl ⟨rfl, .inl rfl⟩, Below.refl _ _⟩
    · refine (hE (some a) c).mono ?_
      rintro e w' ⟨rfl, rfl⟩
      exact ⟨_, rfl, .inl ⟨rfl, .inr ⟨a, c, rfl, hcm⟩⟩, Below.refl _ _⟩
  · have hsz : l.toArray.size = l.length := by simp
    have hD := Go.Proofs.AnyE.slices_DeleteFunc Tryd.delF encI encI_one p 50 lb eg50 default Tryd.zeroValue3 blk 0 cap l.toArray W hp (hpo blk 0 _ hb) hH (by rw [hsz]; unfold maxLen at hm; omega) (by rw [hsz]; exact hc)
    rw [hsz] at hD
    refine Calls.mono hD ?_
    rintro e w' ⟨rfl, q, rfl⟩
    simp only [List.toList_toArray]
    obtain ⟨r, hr⟩ : ∃ r, (l.filter fun x => !p x) = r := ⟨_, rfl⟩
    rw [hr]
    have hrl : r.length ≤ l.length := by rw [← hr]; exact List.length_filter_le _ _
    have hds : (r ++ List.replicate (l.length - r.length) default).toArray.size = l.toArray.size := by simp; omega
    have hH2 := holds_putRow encI (Sort.ahead W q) blk 0 l.toArray _ (holds_ahead encI W q blk 0 _ hH) hds
    refine ⟨_, rfl, .inr ⟨blk, cap, rfl, hb, by rw [size_putRow]; exact hlt, by omega, hm, fun j hj => ?_⟩, rfl, rfl, rfl, by rw [size_putRow]; exact Nat.le_refl _, fun k hk => heap_putRow_other _ _ _ _ _ (by omega)⟩
    have hj' : j < r.length := by simpa using hj
    have h1 := hH2 j (by rw [hds]; simp; omega)
    have e : (r ++ List.replicate (l.length - r.length) default).toArray[j]! = r.toArray[j]! := by
      rw [getElem!_pos _ j (by simp; omega), getElem!_pos _ j (by simpa using hj')]
      simp [List.getElem_append_left hj']
    rw [e] at h1
    exact h1
end Go.Proofs.YtfliennlinngeaaDoor
