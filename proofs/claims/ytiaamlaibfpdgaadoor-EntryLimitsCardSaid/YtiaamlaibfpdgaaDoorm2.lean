/- The logic of data over the kit's walk, and contracts of the functions that the laws reach, each said by plain data; part 3 of 6. -/
import Derived.RangeFuncSeq
import Derived.Sort.Grow
import Derived.Laws.MakeOwn
import Derived.ProofKit
import Derived.Deep.Slices
import Derived.OpenShut
import Derived.ChangeOld
import Derived.Laws.RangeString
import Derived.Test.YtiaamlaibfpdgaaDoorRows
import Derived.KernelRfl
import Derived.Shelf.Unicode.ValidAny
import Derived.Shelf.Strings.IndexAnyAll
import Derived.Ground.NamesProg
import Derived.Test.YtiaamlaibfpdgaaDoorChecked
import Derived.Test.YtiaamlaibfpdgaaDoorm1
set_option linter.all false
set_option linter.unusedVariables false
set_option linter.unusedSimpArgs false
open Nat renaming reduceEqDiff → jA, reduceAdd → jB, reduceMul → jC, reduceSub → jD, reduceLeDiff → jE, reduceBEq → jF
/- The logic of data: the plain laws by which the walk's simp goes. -/
namespace Go.Dl
attribute [go_sem] if_true if_false ite_true ite_false Option.map_some Option.map_none Option.bind_some Option.bind_none List.map_cons List.map_nil List.mapM_cons List.mapM_nil
attribute [go_sem] List.getElem?_cons_zero List.getElem?_cons_succ List.getElem?_nil List.getElem?_map List.take_succ_cons List.take_zero List.take_nil List.drop_succ_cons List.drop_zero List.drop_nil List.cons_append List.nil_append
attribute [go_sem] List.append_nil List.length_cons List.length_nil List.length_map List.zipWith_cons_cons List.replicate_succ List.replicate_zero List.set_cons_zero List.set_cons_succ List.foldr_cons List.foldr_nil and_true
attribute [go_sem] true_and and_false false_and and_self Bool.true_and Bool.and_true Bool.and_false Bool.false_and Bool.not_true Bool.not_false Bool.true_eq_false Bool.false_eq_true
attribute [go_sem] not_false_eq_true not_true_eq_false ne_eq beq_self_eq_true beq_true beq_false List.mem_singleton List.not_mem_nil Int.toNat_natCast Int.natCast_zero Int.cast_ofNat_Int Int.natCast_nonneg
attribute [go_sem] Int.toNat_zero Int.zero_add Nat.le_refl true_or or_true false_or or_false exists_eq_left exists_eq_left' Option.some.injEq Prod.mk.injEq eq_self
attribute [go_sem] implies_true List.isEmpty_toArray List.isEmpty_nil List.isEmpty_cons Bool.or_true Bool.or_false Bool.true_or Bool.false_or Nat.zero_add Nat.add_zero Nat.zero_mul Nat.mul_one
attribute [go_sem] Nat.one_mul decide_true decide_false List.toList_toArray
end Go.Dl

/- The logic of data: a loop over a function: what an iterator promises, one round of the loop, and the rule. -/
namespace Go.Dl
open Go.RowKit
noncomputable section

structure Keep (n : Nat) (K : KSet) (w w' : World) : Prop where
  size : w.heap.size ≤ w'.heap.size
  cells : ∀ b o, K b o → w'.cell? ⟨b, o, none⟩ = w.cell? ⟨b, o, none⟩
  others : ∀ (b : Nat) ob, n ≤ b → w.heap[b]? = some ob → (∀ arr e m, ob ≠ Obj.cells arr e m) → w'.heap[b]? = some ob

def Stab (n : Nat) (J : Option Nat → World → KSet → Prop) : Prop :=
  ∀ g A B (L L' : KSet), J g A L → Hush n A B → (∀ b o, L' b o → L b o ∨ (A.heap.size ≤ b ∧ (B.cell? ⟨b, o, none⟩).isSome = true)) → J g B L'

def Iter (P : Program) (g : FuncId) (vs : Array Value) (xs : List (List D)) (K : KSet) (w : World) : Prop :=
  ∀ (l : Nat) (J : Option Nat → World → KSet → Prop), l < w.heap.size → Stab w.heap.size J →
    (∀ (k : Nat) ds W L (va : Array Value), xs[k]? = some ds → J (some k) W L → w.heap.size ≤ W.heap.size → va.size = ds.length → (∀ (j : Nat) d v, ds[j]? = some d → va[j]? = some v → VD W (E0 L) d v) →
      YieldAt Fence.wide 0 P l va W fun e W' => ∃ b, e = .returned (.bool b) ∧ J (if b then some (k + 1) else none) W' L ∧ Keep w.heap.size L W W') →
    J (some 0) w K → CallsIn Fence.wide 0 P g (#[.func (.yield l) #[] #[]] ++ vs) w fun e W' => (∃ v, e = .returned v) ∧ ∃ L, J (some xs.length) W' L ∨ J none W' L

def SeqD (P : Program) (g : FuncId) (caps : List D) (xs : List (List D)) : Prop :=
  Program.plainF P g = true ∧ ∀ (w : World) (K : KSet) (vs : Array Value), KOk w K → vs.size = caps.length →
    (∀ (j : Nat) d v, caps[j]? = some d → vs[j]? = some v → VD w (E0 K) d v) → Iter P g vs xs K w

def noName : Ren := ⟨fun _ => none, fun _ => none⟩

theorem renames_none (E E' : Env) (h : E'.K = E.K) : Renames noName E E' := ⟨h, fun _ _ h => (by cases h), fun _ _ h => (by cases h)⟩

def DS.round0 (s : DS) (ms : Nat → Bool) (ns : List Nat) : DS := { pl := false, n := s.n, sl := fun t => (s.sl t).tr (shfM ms ns), bx := callMemM ms s.bx ns }
def DS.puts (s : DS) : List (Nat × D) → DS
  | [] => s
  | p :: l => (s.put (some p.1) p.2).puts l
def DS.round (s : DS) (ms : Nat → Bool) (ns : List Nat) (ps : List Nat) (ds : List D) : DS := (s.round0 ms ns).puts (ps.zip (ds.map (D.tr noName)))

theorem RelE.puts {X : Origin} {E : Env} {w : World} : ∀ (l : List (Nat × Value × D)) (s : DS) (a : Act), RelE X s E a w → (∀ p ∈ l, p.1 < s.n ∧ VD w E p.2.2 p.2.1) →
    RelE X (s.puts (l.map fun p => (p.1, p.2.2))) E { a with tmps := (l.map fun p => (p.1, p.2.1)).foldl (fun t p => t.setIfInBounds p.1 p.2) a.tmps } w
  | [], s, a, h, _ => h
  | p :: l, s, a, h, hl => by
    obtain ⟨h1, h2⟩ := hl p (by simp)
    have h3 := h.putOnly (dst := some p.1) (fun d hd => by injection hd with hd; subst hd; exact h1) h2
    have := RelE.puts l _ _ h3 (fun q hq => by rw [put_n]; exact hl q (by simp [hq]))
    exact this

theorem putObj_twice (w : World) (l : Nat) (o o' : Obj) : (w.putObj l o).putObj l o' = w.putObj l o' := by simp [World.putObj]

theorem Turn.loop {F : KSet} {w w' : World} (h : Turn F w w') {b : Nat} {o : Obj} (ho : w.heap[b]? = some o) (hc : ∀ arr e m, o ≠ Obj.cells arr e m) : w'.heap[b]? = some o := by
  have hlt : b < w.heap.size := (Array.getElem?_eq_some_iff.1 ho).1
  rcases h.block b hlt with g | ⟨arr, e, arr', g1, _⟩
  · exact g.trans ho
  · rw [ho] at g1; injection g1 with g1; exact absurd g1 (hc _ _ _)

theorem WI.both {w0 : World} {K F : KSet} {ρ : Nat → Nat} {B : Nat} {ro : Option Nat} {mk : Nat} {w : World} {E : Env} {bx : Mem} (h : WI ⟨w0, K, F, ρ, B, ro, mk⟩ w E bx) {l : Nat} {o : Obj} (o' : Obj) (ho : w0.heap[l]? = some o) (hc : ∀ arr e m, o ≠ Obj.cells arr e m) :
    WI ⟨w0.putObj l o', K, F, ρ, B, ro, mk⟩ (w.putObj l o') E bx := by
  have ho2 := h.turn.loop ho hc
  have hlt : l < w0.heap.size := (Array.getElem?_eq_some_iff.1 ho).1
  have hlt2 : l < w.heap.size := (Array.getElem?_eq_some_iff.1 ho2).1
  have hush : Hush 0 w (w.putObj l o') := Hush.putObj o' (Nat.zero_le _) ho2 hc
  have hl := hush.later h.kok
  refine ⟨⟨h.turn.os, h.turn.tape, h.turn.output, by simpa using h.turn.size, fun b hb => ?_⟩, h.sep, h.kin, fun b o hb => ?_, h.kok.wide hl.keep fun b o hb => ?_, fun n rows hn hne => ?_, h.boxne, fun n b o hs => ?_, h.disj, h.sbox, h.fix⟩
  · by_cases hbl : b = l
    · subst hbl
      exact .inl ((World.putObj_heap_same hlt2).trans (World.putObj_heap_same hlt).symm)
    · have hb' : b < w0.heap.size := by simpa using hb
      simp only [World.putObj_heap_other hbl]
      exact h.turn.block b hb'
  · have hb' : b < w0.heap.size := by simpa using hb
    exact h.kold b o hb'
  · rw [(hl.keep b o hb).2]; exact h.kok b o hb
  · obtain ⟨h1, h2, h3⟩ := h.boxes n rows hn hne
    obtain ⟨sz, arr, e, g, _⟩ := id h2
    refine ⟨?_, h2.mono hl (hush.cells _ _ _ _ g), h3⟩
    rcases h1 with h1 | h1
    · exact .inl (by simpa using h1)
    · exact .inr h1
  · obtain ⟨h1, h2, arr, e, h3, h4⟩ := h.free n b o hs
    refine ⟨?_, h2, arr, e, (hush.cells _ _ _ _ h3).trans h3, h4⟩
    rcases h1 with h1 | h1
    · exact .inl (by simpa using h1)
    · exact .inr h1

end
end Go.Dl

/- The logic of data: the rule of a loop over a function. -/
namespace Go.Dl
open Go.RowKit
noncomputable section

theorem WI.ro {X : Origin} {w : World} {E : Env} {bx : Mem} (h : WI X w E bx) (r : Option Nat) (m : Nat) : WI { X with ro := r, mrk := m } w E bx :=
  ⟨h.turn, h.sep, h.kin, h.kold, h.kok, h.boxes, h.boxne, h.free, h.disj, h.sbox, h.fix⟩

def roundQ (ms : Nat → Bool) (ns : List Nat) (s : DS) (N : DS → Prop) (Q : Exit → DS → Prop) : Exit → DS → Prop
  | .normal, t => N (s.aftCallM ms ns none (.tup []) t.bx)
  | .ret, t => Q .ret (s.aftCallM ms ns none (.tup []) t.bx)
  | .exit id, t => Q (.exit id) (s.aftCallM ms ns none (.tup []) t.bx)
  | .goto l, t => Q (.goto l) (s.aftCallM ms ns none (.tup []) t.bx)
  | _, _ => False

theorem rele_aft {ms : Nat → Bool} {X : Origin} {s : DS} {E E' : Env} {a : Act} {w w' : World} {H' : Mem} {ns : List Nat} (h : RelE X s E a w) (h' : WI ⟨w, E.K, callFM ms s.bx E ns, (callEnvM ms E ns).ρ, NB, none, w.heap.size⟩ w' E' H') (hc : CallOkM ms ns none) :
    RelE X (s.aftCallM ms ns none (.tup []) H') (aftEnvM ms E E' ns none) a w' :=
  ⟨wi_aft_m h.wi h.small.2 h' hc, fun t => ((h.sl t).mono (later_call_m h.wi h')).tr (renames_aft_m E E' ns none), h.size, h.defers.turn h'.turn, h.small, h.pl⟩

theorem foldl_zip (ps : Array Tmp) (vs : Array Value) (t : Array Value) :
    (ps.zip vs).foldl (fun tmps (p : Tmp × Value) => tmps.setIfInBounds p.1 p.2) t = (ps.toList.zip vs.toList).foldl (fun tmps p => tmps.setIfInBounds p.1 p.2) t := by
  rw [← Array.foldl_toList, Array.toList_zip]

theorem zip3 : ∀ (ps : List Nat) (vs : List Value) (ds : List D), vs.length = ds.length →
    ((ps.zip (vs.zip ds)).map fun p => (p.1, p.2.1)) = ps.zip vs ∧ ((ps.zip (vs.zip ds)).map fun p => (p.1, p.2.2)) = ps.zip ds
  | [], _, _, _ => ⟨rfl, rfl⟩
  | _ :: _, [], [], _ => ⟨rfl, rfl⟩
  | p :: ps, v :: vs, d :: ds, h => by
    obtain ⟨h1, h2⟩ := zip3 ps vs ds (by simpa using h)
    simp [h1, h2]

def Origin.re (X : Origin) (w : World) (E : Env) : Origin := ⟨w, E.K, fun b o => X.Young b o ∧ ¬ E.K b o, E.ρ, X.B, X.ro, X.mrk⟩

theorem RelE.re {X : Origin} {s : DS} {E : Env} {a : Act} {w : World} (h : RelE X s E a w) : RelE (X.re w E) s E a w := by
  refine ⟨⟨Turn.refl _ _, fun b o hk hf => hf.2 hk, fun _ _ h => h, fun _ _ _ _ h => h, h.wi.kok, fun n rows hn hne => ?_, h.wi.boxne, fun n b o hs => ?_, h.wi.disj, h.wi.sbox, fun _ _ => rfl⟩, h.sl, h.size, ⟨Nat.le_trans h.defers.1 h.wi.turn.size, h.defers.2⟩, h.small, h.pl⟩
  · obtain ⟨h1, h2, h3⟩ := h.wi.boxes n rows hn hne
    exact ⟨.inr fun o => ⟨h1.imp id (fun g => g o), h3 o⟩, h2, h3⟩
  · obtain ⟨h1, h2, h3⟩ := h.wi.free n b o hs
    exact ⟨.inr ⟨h1, h2⟩, h2, h3⟩

theorem RelE.unre {X : Origin} {s0 s : DS} {E0 E : Env} {a0 a : Act} {w0 w : World} (h0 : RelE X s0 E0 a0 w0) (h : RelE (X.re w0 E0) s E a w) : RelE X s E a w := by
  have hsz := h0.wi.turn.size
  refine ⟨⟨h0.wi.turn.trans h.wi.turn (fun i o hi hf => hf.1.resolve_left (by omega)), h0.wi.sep, fun b o hb => h.wi.kin b o (h0.wi.kin b o hb), fun b o hb hF hk => ?_, h.wi.kok, fun n rows hn hne => ?_, h.wi.boxne, fun n b o hs => ?_, h.wi.disj, h.wi.sbox, fun n hn => (h.wi.fix n hn).trans (h0.wi.fix n hn)⟩, h.sl, h.size, ⟨h0.defers.1, h.defers.2⟩, h.small, h.pl⟩
  · refine h0.wi.kold b o hb hF (h.wi.kold b o (Nat.lt_of_lt_of_le hb hsz) (fun hf => ?_) hk)
    rcases hf.1 with g | g
    · omega
    · exact hF g
  · obtain ⟨h1, h2, h3⟩ := h.wi.boxes n rows hn hne
    refine ⟨?_, h2, h3⟩
    rcases h1 with h1 | h1
    · exact .inl (Nat.le_trans hsz h1)
    · by_cases hb : X.w.heap.size ≤ E.ρ n
      · exact .inl hb
      · exact .inr fun o => (h1 o).1.resolve_left hb
  · obtain ⟨h1, h2, h3⟩ := h.wi.free n b o hs
    refine ⟨?_, h2, h3⟩
    rcases h1 with h1 | h1
    · exact .inl (Nat.le_trans hsz h1)
    · exact h1.1

theorem RelE.sub {X : Origin} {s s' : DS} {E : Env} {a : Act} {w : World} (h : RelE X s E a w) (hs : s.Sub s') : ∃ E', RelE X s' E' a w ∧ ∀ b o, E.K b o → E'.K b o := by
  obtain ⟨E', h'⟩ := hs _ _ _ ⟨E, h.re⟩
  exact ⟨E', h.unre h', h'.wi.kin⟩

section
variable {P : Program} {s : DS} {Q : Exit → DS → Prop}

theorem dw_rangeFunc {g : Operand} {ps : Array Tmp} {assign body : Code} {gf : FuncId} {caps : List T} {xs : List (List D)} {σ : Type} (ms : Nat → Bool) (ns : List Nat) (S : Nat → σ → DS) (Inv : Nat → σ → Prop) (st0 : σ) (hi0 : Inv 0 st0) (hpl : s.pl = true)
    (hg : (s.ev g).asFn = some (gf, caps)) (hseq : SeqD P gf (caps.map fun t => .one (.c t.cl)) xs) (h0 : s.Sub (S 0 st0)) (hn : ∀ k st, (S k st).n = s.n) (hN : s.n ≤ 1000) (hps : ∀ p ∈ ps.toList, p < s.n) (hxs : ∀ ds ∈ xs, ds.length = ps.size)
    (hok : CallOkM ms ns none)
    (hround : ∀ k ds st, xs[k]? = some ds → Inv k st → DW P assign ((S k st).round ms ns ps.toList ds) (thenD (fun s1 => DW P body s1 (roundQ ms ns (S k st) (fun s' => ∃ st', Inv (k + 1) st' ∧ s'.Sub (S (k + 1) st')) Q)) (fun _ _ => False)))
    (hdone : ∀ st, Inv xs.length st → Q .normal (S xs.length st)) : DW P (.rangeFunc g ps assign body) s Q := by
  rintro X a w ⟨E, hE⟩
  have hro : X.ro = none := hE.pl hpl
  rw [hro]
  obtain ⟨captured, hfv, hcs, hcv⟩ := asFn_ok hg (hE.ev g)
  obtain ⟨hmk, Ds, hnd, hds, hDs⟩ := hE.defers
  have hXw : X.w.heap.size ≤ w.heap.size := hE.wi.turn.size
  have hNB := NB_big
  refine wpIn_rangeFunc (F := Fence.wide) ?_
  intro fn _
  obtain ⟨rec, hrec⟩ : ∃ rec : LoopState → Option Code → Loop, rec = fun st pe => { state := st, pending := pe, fn, tmps := a.tmps, params := ps, assign, body, defers := w.heap.size } := ⟨_, rfl⟩
  obtain ⟨W1, hW1⟩ : ∃ W1, (w.alloc (.deferred (some []))).alloc (.loop (rec .ready none)) = W1 := ⟨_, rfl⟩
  have hsz1 : W1.heap.size = w.heap.size + 2 := by rw [← hW1]; simp
  have hL1 : W1.heap[w.heap.size + 1]? = some (.loop (rec .ready none)) := by
    rw [← hW1]; have := World.alloc_heap_new (w.alloc (.deferred (some []))) (.loop (rec .ready none)); rwa [World.size_alloc] at this
  have hK1 : W1.heap[w.heap.size]? = some (.deferred (some [])) := by
    rw [← hW1]; exact (Below.heap_alloc _ _ _ (by simp)).trans (World.alloc_heap_new w _)
  have hush1 : Hush w.heap.size w W1 := by rw [← hW1]; exact (Hush.alloc _ (Nat.le_refl _)).trans (Hush.alloc _ (by simp))
  have hDlt : ∀ D ∈ Ds, D < w.heap.size := fun D hD => (Array.getElem?_eq_some_iff.1 (hDs D hD).2).1
  have hDs1 : ∀ D ∈ w.heap.size :: Ds, W1.heap[D]? = some (.deferred (some [])) := fun D hD => by
    rcases List.mem_cons.1 hD with rfl | hD
    · exact hK1
    · exact (hush1.old D (hDlt D hD)).trans (hDs D hD).2
  have hnd1 : (w.heap.size :: Ds).Nodup := List.nodup_cons.2 ⟨fun h => by have := hDlt _ h; omega, hnd⟩
  have hDlt1 : ∀ D ∈ w.heap.size :: Ds, D < w.heap.size + 1 := fun D hD => by
    rcases List.mem_cons.1 hD with rfl | hD
    · omega
    · have := hDlt D hD; omega
  have hDge1 : ∀ D ∈ w.heap.size :: Ds, X.mrk ≤ D := fun D hD => by
    rcases List.mem_cons.1 hD with rfl | hD
    · exact Nat.le_trans hmk hXw
    · exact (hDs D hD).1
  have hlat1 := hush1.later hE.wi.kok
  have hkok1 : KOk W1 E.K := hE.wi.kok.wide hlat1.keep fun b o hb => by rw [(hlat1.keep b o hb).2]; exact hE.wi.kok b o hb
  have hit := hseq.2 W1 E.K captured hkok1 (by simpa using hcs) (fun j d v h1 h2 => by
    rw [List.getElem?_map] at h1
    cases hc : caps[j]? with
    | none => rw [hc] at h1; cases h1
    | some t => rw [hc] at h1; injection h1 with h1; subst h1; exact .one _ _ (.c _ _ ((hcv j t v hc h2).cl.mono hlat1.keep)))
  refine ⟨w.heap.size + 1, [{ target := .collected w.heap.size, args := #[] }], W1, { target := .fn (.func gf) captured, args := #[.func (.yield (w.heap.size + 1)) #[] #[]] }, W1, gf,
    #[.func (.yield (w.heap.size + 1)) #[] #[]] ++ captured, W1, ?_, ?_, fun _ _ => trivial, ?_, fun h => (by cases h), ?_⟩
  · rw [← hW1, hrec]; exact run_enterLoop_outer _ _ _ _ _
  · have h := resolve_value (P := P) a.eval g #[.const (.func (.yield (w.heap.size + 1)) #[] #[])] #[] 0 gf captured hfv W1
    simpa [Act.eval] using h
  · exact plainF_ok hseq.1 _ W1
  let Jk : Nat → World → KSet → Prop := fun k W L => ∃ st, Inv k st ∧ ∃ E', RelE X (S k st) E' { a with defers := [] } W ∧ (∀ b o, L b o → E'.K b o) ∧ (∀ b o, E.K b o → E'.K b o ∧ W.cell? ⟨b, o, none⟩ = W1.cell? ⟨b, o, none⟩) ∧ W.heap[w.heap.size + 1]? = some (.loop (rec .ready none)) ∧
    ∀ D ∈ w.heap.size :: Ds, W.heap[D]? = some (.deferred (some []))
  let Jx : World → Prop := fun W => ∃ c E' s', RelE X s' E' { a with defers := [] } W ∧ W.heap[w.heap.size + 1]? = some (.loop (rec .done (some c))) ∧ (∀ D ∈ w.heap.size :: Ds, W.heap[D]? = some (.deferred (some []))) ∧
    ∀ a' W', Rel X s' a' W' → c.wpIn Fence.wide 0 P (fun e a w => ∃ s'', Q e s'' ∧ Rel X s'' a w) a' W'
  let J : Option Nat → World → KSet → Prop := fun g W L => match g with | some k => Jk k W L | none => Jx W
  have fin : ∀ {s' : DS} {E' : Env} {W : World} (o : Loop), RelE X s' E' { a with defers := [] } W → W.heap[w.heap.size + 1]? = some (.loop o) → (∀ D ∈ w.heap.size :: Ds, W.heap[D]? = some (.deferred (some []))) → ∀ o' : Loop,
      Rel X s' { a with defers := [{ target := .collected w.heap.size, args := #[] }] ++ a.defers } (W.putObj (w.heap.size + 1) (.loop o')) := fun o h1 h2 h3 o' => by
    refine ⟨_, h1.hush (Hush.putObj _ (by omega) h2 (by simp)) rfl ⟨hmk, w.heap.size :: Ds, hnd1, by simp [hds], fun D hD => ⟨hDge1 D hD, ?_⟩⟩⟩
    exact (World.putObj_heap_other (by have := hDlt1 D hD; omega)).trans (h3 D hD)
  have nil : ∀ W, DefOK X [] W := fun W => DefOK.nil _ _ hmk
  refine (hit (w.heap.size + 1) J (by omega) ?_ ?_ ?_).mono ?_
  · rintro g A B L L' hJ hu hL
    cases g with
    | some k =>
      obtain ⟨st, hi, E', h1, h0, h2, h3, h4⟩ := hJ
      have hw : Wider A B E' { E' with K := fun b o => E'.K b o ∨ (A.heap.size ≤ b ∧ (B.cell? ⟨b, o, none⟩).isSome = true) } := ⟨fun _ _ h => .inl h, fun _ _ h => h, rfl, rfl⟩
      have hl := hu.later h1.wi.kok
      refine ⟨st, hi, _, h1.hushW (hu.mono (by omega)) hw rfl (nil _), fun b o hb => (hL b o hb).imp (h0 b o) id, fun b o hb => ⟨.inl (h2 b o hb).1, ((hl.keep b o (h2 b o hb).1).2).trans (h2 b o hb).2⟩, (hu.old _ (by omega)).trans h3, fun D hD => (hu.old D (by have := hDlt1 D hD; omega)).trans (h4 D hD)⟩
    | none =>
      obtain ⟨c, E', s', h1, h3, h4, h5⟩ := hJ
      exact ⟨c, E', s', h1.hush (hu.mono (by omega)) rfl (nil _), (hu.old _ (by omega)).trans h3, fun D hD => (hu.old D (by have := hDlt1 D hD; omega)).trans (h4 D hD), h5⟩
  · -- one round
    rintro k ds W L va hkx ⟨st, hik, E', h1, hL, h2, h3, h4⟩ _ v1 v2
    have hlen : ds.length = ps.size := hxs _ (List.mem_of_getElem? hkx)
    have hy := run_yield (P := P) (args := va) h3 (by rw [hrec]; exact v1.trans hlen)
    have hlW : w.heap.size + 1 < W.heap.size := (Array.getElem?_eq_some_iff.1 h3).1
    let Xr : Origin := ⟨W, E'.K, callFM ms (S k st).bx E' ns, (callEnvM ms E' ns).ρ, NB, some (w.heap.size + 1), W.heap.size⟩
    have hwi : WI Xr W (callEnvM ms E' ns) (callMemM ms (S k st).bx ns) := (wi_call_m h1.wi ns hok.hns).ro _ _
    have hbase : RelE Xr ((S k st).round0 ms ns) (callEnvM ms E' ns) { tmps := a.tmps, defers := [] } W :=
      ⟨hwi, fun t => (h1.sl t).tr (renames_shf_m (ms := ms) E' ns), h1.size, DefOK.nil _ _ (Nat.le_refl _), ⟨by show (S k st).n ≤ NB; rw [hn]; omega, Nat.le_refl _⟩, fun h => (by cases h)⟩
    obtain ⟨z1, z2⟩ := zip3 ps.toList va.toList (ds.map (D.tr noName)) (by simp [v1])
    have hput := RelE.puts (ps.toList.zip (va.toList.zip (ds.map (D.tr noName)))) _ _ hbase (fun p hp => by
      obtain ⟨i, hi⟩ := List.getElem?_of_mem hp
      rw [List.getElem?_zip_eq_some, List.getElem?_zip_eq_some] at hi
      obtain ⟨g1, g2, g3⟩ := hi
      refine ⟨by show p.1 < (S k st).n; rw [hn]; exact hps _ (List.mem_of_getElem? g1), ?_⟩
      rw [List.getElem?_map] at g3
      cases hd : ds[i]? with
      | none => rw [hd] at g3; cases g3
      | some d =>
        rw [hd] at g3; injection g3 with g3
        rw [← g3]
        have hv := v2 i d p.2.1 hd (by simpa using g2)
        have hla : Later W (E0 L) W { (E0 L) with K := E'.K } := ⟨fun b o hb => ⟨hL b o hb, rfl⟩, rfl, rfl⟩
        exact VD.tr (renames_none { (E0 L) with K := E'.K } (callEnvM ms E' ns) rfl) (hv.mono hla))
    rw [z1, z2] at hput
    have htm : (((rec .ready none).params.zip va).foldl (fun tmps (p : Tmp × Value) => tmps.setIfInBounds p.1 p.2) (rec .ready none).tmps) = (ps.toList.zip va.toList).foldl (fun t p => t.setIfInBounds p.1 p.2) a.tmps := by
      rw [hrec]; exact foldl_zip _ _ _
    refine ⟨_, _, _, _, hy, ?_⟩
    have hass := hround k _ st hkx hik Xr _ W ⟨_, hput⟩
    rw [show (rec .ready none).assign = assign by rw [hrec], show (rec .ready none).body = body by rw [hrec]]
    refine roundIn_of_wpIn trivial ?_
    rw [htm]
    refine wpIn_mono hass ?_
    rintro e a1 W2 ⟨s1, hs1, E1, hr1⟩
    cases e with
    | normal =>
      have hl2 := hr1.wi.turn.loop h3 (by simp)
      refine ⟨_, run_beginRound hl2 (by rw [hrec]), ?_⟩
      have hwb := hr1.wi.both (.loop { rec .ready none with state := .busy }) h3 (by simp)
      have hub : Hush 0 W2 (W2.putObj (w.heap.size + 1) (.loop { rec .ready none with state := .busy })) := Hush.putObj _ (Nat.zero_le _) hl2 (by simp)
      have hrb : RelE ⟨W.putObj (w.heap.size + 1) (.loop { rec .ready none with state := .busy }), E'.K, callFM ms (S k st).bx E' ns, (callEnvM ms E' ns).ρ, NB, some (w.heap.size + 1), W.heap.size⟩ s1 E1 a1 (W2.putObj (w.heap.size + 1) (.loop { rec .ready none with state := .busy })) := by
        refine ⟨hwb, fun t => (hr1.sl t).mono (hub.later hr1.wi.kok), hr1.size, ?_, hr1.small, hr1.pl⟩
        obtain ⟨_, Ds2, q1, q2, q3⟩ := hr1.defers
        refine ⟨by simp, Ds2, q1, q2, fun D hD => ?_⟩
        obtain ⟨q4, q5⟩ := q3 D hD
        have q6 : W.heap.size ≤ D := q4
        exact ⟨q6, (World.putObj_heap_other (by omega)).trans q5⟩
      refine wpIn_mono (hs1 _ _ _ ⟨E1, hrb⟩) ?_
      have hbl : (W.putObj (w.heap.size + 1) (.loop { rec .ready none with state := .busy })).heap[w.heap.size + 1]? = some (.loop { rec .ready none with state := .busy }) := World.putObj_heap_same hlW
      have after : ∀ (jump : Option Code) {s4 : DS} {E4 : Env} {a4 : Act} {W4 : World}, RelE ⟨W.putObj (w.heap.size + 1) (.loop { rec .ready none with state := .busy }), E'.K, callFM ms (S k st).bx E' ns, (callEnvM ms E' ns).ρ, NB, some (w.heap.size + 1), W.heap.size⟩ s4 E4 a4 W4 →
          ∃ W5, (Instr.endRound (w.heap.size + 1) jump).run P W4 = .ok (.bool jump.isNone) W5 ∧ RelE X ((S k st).aftCallM ms ns none (.tup []) s4.bx) (aftEnvM ms E' E4 ns none) { a with defers := [] } W5 ∧
            W5.heap[w.heap.size + 1]? = some (.loop (rec (if jump.isNone then .ready else .done) jump)) ∧ (∀ D ∈ w.heap.size :: Ds, W5.heap[D]? = some (.deferred (some []))) ∧
            (∀ b o, E'.K b o → E4.K b o ∧ W5.cell? ⟨b, o, none⟩ = W.cell? ⟨b, o, none⟩) ∧ Keep W1.heap.size L W W5 := by
        intro jump s4 E4 a4 W4 h5
        have hl4 := h5.wi.turn.loop hbl (by simp)
        have hrun := run_endRound (P := P) jump hl4
        have hl4lt : w.heap.size + 1 < W4.heap.size := (Array.getElem?_eq_some_iff.1 hl4).1
        have he5 : (.loop { ({ rec .ready none with state := .busy } : Loop) with state := if jump.isNone then .ready else .done, pending := jump } : Obj) = .loop (rec (if jump.isNone then .ready else .done) jump) := by rw [hrec]
        rw [he5] at hrun
        have hw5 := (h5.wi.both (.loop (rec (if jump.isNone then .ready else .done) jump)) hbl (by simp)).ro none (W.putObj (w.heap.size + 1) (.loop (rec (if jump.isNone then .ready else .done) jump))).heap.size
        simp only [putObj_twice] at hw5
        have hu1 : Hush 0 W (W.putObj (w.heap.size + 1) (.loop (rec (if jump.isNone then .ready else .done) jump))) := Hush.putObj _ (Nat.zero_le _) h3 (by simp)
        have hra := rele_aft (h1.hush (a' := { a with defers := [] }) (Hush.putObj (.loop (rec (if jump.isNone then .ready else .done) jump)) (by omega) h3 (by simp)) rfl (nil _)) hw5 hok
        have hu4 : Hush 0 W4 (W4.putObj (w.heap.size + 1) (.loop (rec (if jump.isNone then .ready else .done) jump))) := Hush.putObj _ (Nat.zero_le _) hl4 (by simp)
        have hcell : ∀ b o, E'.K b o → E4.K b o ∧ (W4.putObj (w.heap.size + 1) (.loop (rec (if jump.isNone then .ready else .done) jump))).cell? ⟨b, o, none⟩ = W.cell? ⟨b, o, none⟩ := fun b o hb => by
          have k4 := h5.wi.kin b o hb
          refine ⟨k4, ?_⟩
          rw [((hu4.later h5.wi.kok).keep b o k4).2]
          have hblt := lt_of_cell (h1.wi.kok b o hb)
          rw [h5.wi.turn.cell (by simpa using hblt) (h5.wi.sep b o hb)]
          have hub0 : Hush 0 W (W.putObj (w.heap.size + 1) (.loop { rec .ready none with state := .busy })) := Hush.putObj _ (Nat.zero_le _) h3 (by simp)
          exact ((hub0.later h1.wi.kok).keep b o hb).2
        refine ⟨_, hrun, hra, World.putObj_heap_same hl4lt, fun D hD => ?_, hcell, ?_, fun b o hb => (hcell b o (hL b o hb)).2, fun b ob hne hob hc => ?_⟩
        · have hlt := hDlt1 D hD
          refine (World.putObj_heap_other (by omega)).trans (h5.wi.turn.loop ?_ (by simp))
          exact (World.putObj_heap_other (by omega)).trans (h4 D hD)
        · have := h5.wi.turn.size; simpa using this
        · have hne : b ≠ w.heap.size + 1 := by omega
          refine (World.putObj_heap_other hne).trans (h5.wi.turn.loop ?_ hc)
          exact (World.putObj_heap_other hne).trans hob
      have hcellJ : ∀ {E4 : Env} {W5 : World}, (∀ b o, E'.K b o → E4.K b o ∧ W5.cell? ⟨b, o, none⟩ = W.cell? ⟨b, o, none⟩) → ∀ b o, E.K b o → (aftEnvM ms E' E4 ns none).K b o ∧ W5.cell? ⟨b, o, none⟩ = W1.cell? ⟨b, o, none⟩ := fun h b o hb =>
        ⟨(h b o (h2 b o hb).1).1, (h b o (h2 b o hb).1).2.trans (h2 b o hb).2⟩
      have stop : ∀ (c : Code) {s4 : DS} {E4 : Env} {a4 : Act} {W4 : World}, RelE ⟨W.putObj (w.heap.size + 1) (.loop { rec .ready none with state := .busy }), E'.K, callFM ms (S k st).bx E' ns, (callEnvM ms E' ns).ρ, NB, some (w.heap.size + 1), W.heap.size⟩ s4 E4 a4 W4 →
          (∀ a' W', Rel X ((S k st).aftCallM ms ns none (.tup []) s4.bx) a' W' → c.wpIn Fence.wide 0 P (fun e a w => ∃ s'', Q e s'' ∧ Rel X s'' a w) a' W') →
          ∃ v w', (Instr.endRound (w.heap.size + 1) (some c)).run P W4 = .ok v w' ∧ ∃ b, Ending.returned v = .returned (.bool b) ∧ J (if b then some (k + 1) else none) w' L ∧ Keep W1.heap.size L W w' := fun c {s4 E4 a4 W4} h5 hc => by
        obtain ⟨W5, g1, g2, g3, g4, g5, g6⟩ := after (some c) h5
        exact ⟨_, W5, g1, false, rfl, ⟨c, _, _, g2, g3, g4, hc⟩, g6⟩
      rintro e a4 W4 ⟨s4, hq, E4, h5⟩
      cases e with
      | normal =>
        obtain ⟨W5, g1, g2, g3, g4, g5, g6⟩ := after none h5
        refine ⟨_, W5, g1, true, rfl, ?_, g6⟩
        obtain ⟨st', hi', hsub⟩ := hq
        obtain ⟨E5, g7, g8⟩ := g2.sub hsub
        exact ⟨st', hi', E5, g7, fun b o hb => g8 b o (g5 b o (hL b o hb)).1, fun b o hb => ⟨g8 b o (hcellJ g5 b o hb).1, (hcellJ g5 b o hb).2⟩, g3, g4⟩
      | ret => exact stop .ret h5 fun a' W' hr => wpIn_ret ⟨_, hq, hr⟩
      | exit id => exact stop (.exit id) h5 fun a' W' hr => wpIn_exit ⟨_, hq, hr⟩
      | goto t => exact stop (.goto t) h5 fun a' W' hr => wpIn_goto ⟨_, hq, hr⟩
      | panic ch => exact hq.elim
      | outgrown => exact hq.elim
    | exit id => exact hs1.elim
    | goto l => exact hs1.elim
    | ret => exact hs1.elim
    | panic ch => exact hs1.elim
    | outgrown => exact hs1.elim
  · obtain ⟨E', h1, h2⟩ := RelE.sub (a := { a with defers := [] }) ⟨hE.wi, hE.sl, hE.size, DefOK.nil _ _ hE.defers.1, hE.small, hE.pl⟩ h0
    exact ⟨st0, hi0, E', h1.hush (hush1.mono (by omega)) rfl (nil _), h2, fun b o hb => ⟨h2 b o hb, rfl⟩, hL1, hDs1⟩
  · rintro e W2 ⟨⟨v, rfl⟩, L, ⟨st, hi, E', h1, _, h2, h3, h4⟩ | ⟨c, E', s', h1, h3, h4, h5⟩⟩
    · exact ⟨none, _, by have := run_endLoop (P := P) h3 (by rw [hrec]; simp); rw [hrec] at this; exact this, S xs.length st, hdone st hi, fin _ h1 h3 h4 _⟩
    · exact ⟨some c, _, by have := run_endLoop (P := P) h3 (by rw [hrec]; simp); rw [hrec] at this; exact this, h5 _ _ (fin _ h1 h3 h4 _)⟩

end
end
end Go.Dl

/- The logic of data: an iterator's own text: slots said by data, no memory of its own; beside them what is said of the caller's world. -/
namespace Go.Dl
open Go.RowKit
noncomputable section

structure Flat (m n : Nat) (s : DS) (K : KSet) (a : Act) (w : World) : Prop where
  kok : KOk w K
  sl : ∀ t, VD w (E0 K) (s.sl t) (a.tmps.getD t undef)
  size : a.tmps.size = s.n
  small : s.n ≤ NB
  mrk : n ≤ w.heap.size
  mn : m ≤ n
  defers : ∃ Ds : List Nat, Ds.Nodup ∧ a.defers = Ds.map (fun D => { target := .collected D, args := #[] }) ∧ ∀ D ∈ Ds, m ≤ D ∧ w.heap[D]? = some (.deferred (some []))

def Ext (w : World) (K : KSet) (w' : World) (K' : KSet) : Prop := ∀ b o, K b o → K' b o ∧ w'.cell? ⟨b, o, none⟩ = w.cell? ⟨b, o, none⟩

theorem Ext.refl (w : World) (K : KSet) : Ext w K w K := fun _ _ h => ⟨h, rfl⟩
theorem Ext.trans {a b c : World} {K L M : KSet} (h : Ext a K b L) (k : Ext b L c M) : Ext a K c M := fun x o hx => ⟨(k x o (h x o hx).1).1, (k x o (h x o hx).1).2.trans (h x o hx).2⟩
theorem Ext.later {a b : World} {K L : KSet} (h : Ext a K b L) : Later a (E0 K) b (E0 L) := ⟨h, rfl, rfl⟩

def DS.flat (s : DS) : DS := { n := s.n, sl := fun t => (s.sl t).tr noName, bx := noMem, pl := false }
def DS.bare (s : DS) : DS := { n := s.n, sl := s.sl, bx := noMem, pl := false }

def IW (P : Program) (m n : Nat) (J : Option Nat → World → KSet → Prop) (ro : Option Nat) (c : Code) (s : DS) (g : Option Nat) (Q : Exit → DS → Option Nat → Prop) : Prop :=
  ∀ K a w, Flat m n s K a w → J g w K → c.wpIn (rd ro) 0 P (fun e a' w' => ∃ s' g' K', Q e s' g' ∧ Flat m n s' K' a' w' ∧ J g' w' K' ∧ Ext w K w' K') a w

def thenI (next : DS → Option Nat → Prop) (Q : Exit → DS → Option Nat → Prop) : Exit → DS → Option Nat → Prop
  | .normal, s, g => next s g
  | e, s, g => Q e s g

def inBlockI (id : Nat) (Q : Exit → DS → Option Nat → Prop) : Exit → DS → Option Nat → Prop
  | .exit id', s, g => if id' = id then Q .normal s g else Q (.exit id') s g
  | e, s, g => Q e s g

section
variable {P : Program} {m n : Nat} {J : Option Nat → World → KSet → Prop} {s : DS} {g ro : Option Nat} {Q : Exit → DS → Option Nat → Prop}

theorem IW.mono {c : Code} {Q' : Exit → DS → Option Nat → Prop} (h : IW P m n J ro c s g Q) (hq : ∀ e s g, Q e s g → Q' e s g) : IW P m n J ro c s g Q' :=
  fun K a w hf hj => wpIn_mono (h K a w hf hj) fun _ _ _ ⟨s', g', K', h1, h2⟩ => ⟨s', g', K', hq _ _ _ h1, h2⟩

theorem iw_skip (h : Q .normal s g) : IW P m n J ro .skip s g Q := fun K _ w hf hj => wpIn_skip ⟨s, g, K, h, hf, hj, Ext.refl _ _⟩
theorem iw_label {l : Nat} (h : Q .normal s g) : IW P m n J ro (.label l) s g Q := fun K _ w hf hj => wpIn_label ⟨s, g, K, h, hf, hj, Ext.refl _ _⟩
theorem iw_exit {id : Nat} (h : Q (.exit id) s g) : IW P m n J ro (.exit id) s g Q := fun K _ w hf hj => wpIn_exit ⟨s, g, K, h, hf, hj, Ext.refl _ _⟩
theorem iw_ret (h : Q .ret s g) : IW P m n J ro .ret s g Q := fun K _ w hf hj => wpIn_ret ⟨s, g, K, h, hf, hj, Ext.refl _ _⟩

theorem iw_seq {x y : Code} (h : IW P m n J ro x s g (thenI (fun s' g' => IW P m n J ro y s' g' Q) Q)) : IW P m n J ro (.seq x y) s g Q := by
  intro K a w hf hj
  refine wpIn_seq (wpIn_mono (h K a w hf hj) ?_)
  rintro e a' w' ⟨s', g', K', h1, h2, h3, h4⟩
  cases e with
  | normal => exact wpIn_mono (h1 K' a' w' h2 h3) fun _ _ _ ⟨s2, g2, K2, q1, q2, q3, q4⟩ => ⟨s2, g2, K2, q1, q2, q3, h4.trans q4⟩
  | _ => exact ⟨s', g', K', h1, h2, h3, h4⟩

theorem iw_block {id : Nat} {c : Code} (h : IW P m n J ro c s g (inBlockI id Q)) : IW P m n J ro (.block id c) s g Q := by
  intro K a w hf hj
  refine wpIn_block (wpIn_mono (h K a w hf hj) ?_)
  rintro e a' w' ⟨s', g', K', h1, h2⟩
  cases e with
  | exit id' =>
    simp only [Exit.inBlock, inBlockI] at h1 ⊢
    split
    · rename_i he; rw [if_pos he] at h1; exact ⟨s', g', K', h1, h2⟩
    · rename_i he; rw [if_neg he] at h1; exact ⟨s', g', K', h1, h2⟩
  | _ => exact ⟨s', g', K', h1, h2⟩

theorem Flat.rel {K : KSet} {a : Act} {w : World} (h : Flat m n s K a w) (ro : Option Nat) : RelE ⟨w, K, fun _ _ => False, (E0 K).ρ, NB, ro, m⟩ s.bare (E0 K) a w :=
  ⟨(wi_zero w K h.kok).ro ro m, h.sl, h.size, ⟨Nat.le_trans h.mn h.mrk, h.defers⟩, ⟨h.small, Nat.le_refl _⟩, fun h => (by cases h)⟩

theorem Flat.ev {K : KSet} {a : Act} {w : World} (h : Flat m n s K a w) (x : Operand) : VD w (E0 K) (s.ev x) (a.eval x) := (h.rel none).ev x

theorem iw_cond {c : Operand} {x y : Code} {t : Bool} (hc : s.ev c = .one (.c (.lit (.bool t)))) (ht : t = true → IW P m n J ro x s g Q) (hf : t = false → IW P m n J ro y s g Q) : IW P m n J ro (.cond c x y) s g Q := by
  intro K a w hfl hj
  have hv := hfl.ev c
  rw [hc] at hv
  exact wpIn_cond_split hv.lit (fun h => ht h K a w hfl hj) (fun h => hf h K a w hfl hj)

theorem flat_after {K : KSet} {a : Act} {w : World} (hf : Flat m n s K a w) (hJ : Stab n J) (hj : J g w K) {ro : Option Nat} {s' : DS} {a' : Act} {w' : World} (h : Rel ⟨w, K, fun _ _ => False, (E0 K).ρ, NB, ro, m⟩ s' a' w') :
    ∃ K', Flat m n s'.flat K' a' w' ∧ J g w' K' ∧ Ext w K w' K' := by
  obtain ⟨E', h⟩ := h
  have hb := h.wi.turn.below
  refine ⟨E'.K, ⟨h.wi.kok, fun t => VD.tr (renames_none E' (E0 E'.K) rfl) (h.sl t), h.size, h.small.1, Nat.le_trans hf.mrk hb.size, hf.mn, h.defers.2⟩, ?_, fun b o hk => ?_⟩
  · refine hJ g w w' K E'.K hj ⟨hb.os, hb.tape, hb.output, hb.size, fun b hlt => hb.block b (Nat.lt_of_lt_of_le hlt hf.mrk), fun b arr e m hc => hb.block b (Array.getElem?_eq_some_iff.1 hc).1⟩ fun b o hk => ?_
    rcases Nat.lt_or_ge b w.heap.size with hlt | hge
    · exact .inl (h.wi.kold b o hlt id hk)
    · exact .inr ⟨hge, h.wi.kok b o hk⟩
  · have hk' := h.wi.kin b o hk
    exact ⟨hk', hb.cell (p := ⟨b, o, none⟩) (lt_of_cell (hf.kok b o hk))⟩

theorem iw_pure {c : Code} {Q' : Exit → DS → Prop} (hJ : Stab n J) (h : DW P c s.bare Q') (hq : ∀ e s', Q' e s' → Q e s'.flat g) : IW P m n J ro c s g Q := by
  intro K a w hf hj
  refine wpIn_mono (h _ a w ⟨_, hf.rel ro⟩) ?_
  rintro e a' w' ⟨s', h1, h2⟩
  obtain ⟨K', h3, h4, h5⟩ := flat_after hf hJ hj h2
  exact ⟨_, g, K', hq _ _ h1, h3, h4, h5⟩

theorem iw_pureQ {c : Code} (hJ : Stab n J) (h : DW P c s.bare (fun e s' => Q e s'.flat g)) : IW P m n J ro c s g Q := iw_pure hJ h fun _ _ h => h

def DS.FSub (s s' : DS) : Prop := s.n = s'.n ∧ ∀ t, s'.sl t = .any ∨ DLe (s.sl t) (s'.sl t)

theorem fsub_kn {s : DS} {N : Nat} {sls : List (Nat × D)} (hn : s.n = N) (h1 : AllS s sls) : s.FSub (kn N sls noMem) := ⟨hn, AllS.get h1⟩

theorem Flat.sub {s' : DS} {K : KSet} {a : Act} {w : World} (h : Flat m n s K a w) (hs : s.FSub s') : Flat m n s' K a w :=
  ⟨h.kok, fun t => by
    rcases hs.2 t with e | e
    · rw [e]; exact .any _
    · exact e w (E0 K) _ (h.sl t), h.size.trans hs.1, hs.1 ▸ h.small, h.mrk, h.mn, h.defers⟩

theorem iw_sub {c : Code} {s' : DS} (hs : s.FSub s') (h : IW P m n J ro c s' g Q) : IW P m n J ro c s g Q := fun K a w hf hj => h K a w (hf.sub hs) hj

theorem iw_loop {α : Type} {c : Code} (S : α → DS) (G : α → Option Nat) (Inv : α → Prop) (μ : α → Nat) (x0 : α) (h0 : s.FSub (S x0)) (hg : g = G x0) (hi : Inv x0)
    (round : ∀ x, Inv x → IW P m n J ro c (S x) (G x) (thenI (fun s' g' => ∃ x', Inv x' ∧ μ x' < μ x ∧ s'.FSub (S x') ∧ g' = G x') Q)) : IW P m n J ro (.loop c) s g Q := by
  intro K a w hf hj b k cs hro hb hroom
  have key : ∀ q x, μ x = q → Inv x → ∀ K a w, Flat m n (S x) K a w → J (G x) w K →
      ∃ e a' w', (∃ s' g' K', Q e s' g' ∧ Flat m n s' K' a' w' ∧ J g' w' K' ∧ Ext w K w' K') ∧ ArrivesIn (Machine.fenced P (rd ro)) P (lone (b.atR a (.code c :: .inLoop c :: k)) cs w) b k cs e a' w' := by
    intro q
    induction q using Nat.strongRecOn with
    | _ q ih =>
      intro x hm hI K a w hf hj
      obtain ⟨e, a₁, w₁, ⟨s₁, g₁, K₁, hq, hf₁, hj₁, he₁⟩, harr⟩ := round x hI K a w hf hj b (.inLoop c :: k) cs hro hb hroom
      cases e with
      | normal =>
        obtain ⟨x', hI₁, hlt, hsub, rfl⟩ := hq
        obtain ⟨e₂, a₂, w₂, ⟨s₂, g₂, K₂, q1, q2, q3, q4⟩, harr₂⟩ := ih (μ x') (hm ▸ hlt) x' rfl hI₁ K₁ a₁ w₁ (hf₁.sub hsub) hj₁
        exact ⟨e₂, a₂, w₂, ⟨s₂, g₂, K₂, q1, q2, q3, he₁.trans q4⟩, .of_steps (StepsIn.trans harr (.one (fenced_calm hb hroom rfl) stepR_inLoop)) harr₂⟩
      | exit id => exact ⟨_, a₁, w₁, ⟨s₁, g₁, K₁, hq, hf₁, hj₁, he₁⟩, .pass (x := .inLoop c) rfl (fun _ _ => .inl (by simp)) harr⟩
      | goto l => exact ⟨_, a₁, w₁, ⟨s₁, g₁, K₁, hq, hf₁, hj₁, he₁⟩, .pass (x := .inLoop c) rfl (fun _ _ => .inl (by simp)) harr⟩
      | ret => exact ⟨_, a₁, w₁, ⟨s₁, g₁, K₁, hq, hf₁, hj₁, he₁⟩, .pass (x := .inLoop c) rfl (fun _ _ => .inl (by simp)) harr⟩
      | panic ch => exact ⟨_, a₁, w₁, ⟨s₁, g₁, K₁, hq, hf₁, hj₁, he₁⟩, .pass (x := .inLoop c) rfl (fun _ _ => .inl (by simp)) harr⟩
      | outgrown => exact ⟨_, a₁, w₁, ⟨s₁, g₁, K₁, hq, hf₁, hj₁, he₁⟩, .pass (x := .inLoop c) rfl (fun _ _ => .inl (by simp)) harr⟩
  obtain ⟨e, a', w', hq, harr⟩ := key _ x0 rfl hi K a w (hf.sub h0) (hg ▸ hj)
  exact ⟨e, a', w', hq, .of_steps (.one (fenced_calm hb hroom rfl) stepR_loop) harr⟩

/-! ### A region in which yield is called -/

def Yields (P : Program) (m n : Nat) (J : Option Nat → World → KSet → Prop) (l : Nat) (xs : List (List D)) : Prop :=
  l < m ∧ ∀ (k : Nat) ds W L (va : Array Value), xs[k]? = some ds → J (some k) W L → n ≤ W.heap.size → va.size = ds.length → (∀ (j : Nat) d v, ds[j]? = some d → va[j]? = some v → VD W (E0 L) d v) →
      YieldAt Fence.wide 0 P l va W fun e W' => ∃ b, e = .returned (.bool b) ∧ J (if b then some (k + 1) else none) W' L ∧ Keep m L W W'

def yieldD (P : Program) (ops : List Oper) (l : Nat) (xs : List (List D)) (o : Oper) (s : DS) (g : Option Nat) (K : DS → Option Nat → Prop) : Prop :=
  ∃ t, wantD ops s.bare o = some t ∧ (t = false → K (s.put o.dst (.tup [])) g) ∧
    (t = true → ∃ f args tys k ds, o.op = .call { callee := .value f, args := args, argTypes := tys } ∧ s.ev f = .one (.c (.lit (.func (.yield l) #[] #[]))) ∧ g = some k ∧ xs[k]? = some ds ∧ DLeL (args.toList.map s.ev) ds ∧
      ∀ b : Bool, K (s.put o.dst (.one (.c (.lit (.bool b))))) (if b then some (k + 1) else none))

theorem Flat.put {K : KSet} {a : Act} {w w' : World} (h : Flat m n s K a w) (hl : ∀ b o, K b o → w'.cell? ⟨b, o, none⟩ = w.cell? ⟨b, o, none⟩) (hsz : w.heap.size ≤ w'.heap.size)
    (hD : ∀ D : Nat, m ≤ D → w.heap[D]? = some (.deferred (some [])) → w'.heap[D]? = some (.deferred (some []))) {dst : Option Nat} (hd : ∀ d, dst = some d → d < s.n) {d : D} {v : Value} (hv : VD w' (E0 K) d v) : Flat m n (s.put dst d) K (a.put dst v) w' := by
  have hla : Later w (E0 K) w' (E0 K) := ⟨fun b o hb => ⟨hb, hl b o hb⟩, rfl, rfl⟩
  refine ⟨h.kok.move hl, fun t => ?_, ?_, by rw [put_n]; exact h.small, Nat.le_trans h.mrk hsz, h.mn, ?_⟩
  · rw [getD_put a dst v t (fun d he => by rw [h.size]; exact hd d he)]
    cases dst with
    | none => simpa [DS.put] using (h.sl t).mono hla
    | some d' =>
      by_cases he : t = d'
      · subst he; simpa [DS.put] using hv
      · have : ¬ (some d' = some t) := by simpa using fun e => he e.symm
        simp only [DS.put, if_neg he, if_neg this]
        exact (h.sl t).mono hla
  · rw [show (a.put dst v).tmps.size = a.tmps.size from by cases dst <;> simp [Act.put], h.size, put_n]
  · obtain ⟨Ds, h1, h2, h3⟩ := h.defers
    exact ⟨Ds, h1, by rw [show (a.put dst v).defers = a.defers from by cases dst <;> rfl]; exact h2, fun D hDs => ⟨(h3 D hDs).1, hD D (h3 D hDs).1 (h3 D hDs).2⟩⟩

theorem roundIn_rd {ro : Option Nat} {l : Nat} {f : FuncId} {tmps : Array Value} {assign body : Code} {w : World} {R : Ending → World → Prop} (h : RoundIn Fence.wide 0 P l f tmps assign body w R) : RoundIn (rd ro) (0 - 1) P l f tmps assign body w R := by
  cases ro with
  | none => exact h
  | some l => exact h

theorem walk_pre {Q' : Exit → Act → World → Prop} {ops r : List Oper} {X : Origin} {N : Nat} {K : DS → Prop} (hK : ∀ s a w, s.n = N → K s → Rel X s a w → wpListIn (rd X.ro) 0 P ops.toArray Q' r a w) : ∀ (l : List Oper) (s : DS) (a : Act) (w : World), dstB l N = true → s.n = N → Rel X s a w →
    walkS P ops l s K → wpListIn (rd X.ro) 0 P ops.toArray Q' (l ++ r) a w
  | [], s, a, w, _, hn, hr, h => hK s a w hn h hr
  | o :: l, s, a, w, hb, hn, hr, h => by
    obtain ⟨h0, h1, h2⟩ := dstB_cons hb
    refine wpListIn_step fun K' hK' => ?_
    simp only [walkS, guardS] at h
    split at h
    · rename_i t ht
      rw [wantD_ok ht hr]
      split at h
      · rename_i h3
        rw [if_pos h3]
        refine wpIn_of_wp h0 (Oper.wp_mono ?_ (h (fun d hd => by rw [hn]; exact h1 d hd) X a w hr Q'))
        rintro a' w' ⟨s', ⟨hn', hs'⟩, hr'⟩
        exact hK' _ _ (walk_pre hK l s' a' w' h2 (hn'.trans hn) hr' hs')
      · rename_i h3
        rw [if_neg h3]
        refine ⟨fun f _ => rd_fn X.ro f, ?_⟩
        exact hK' _ _ (walk_pre hK l _ _ w h2 (by rw [put_n]; exact hn) (putAny hr (fun d hd => by rw [hn]; exact h1 d hd)) h)
    · exact h.elim

theorem dstB_sub {l l' : List Oper} {N : Nat} (h : dstB l N = true) (hs : ∀ x ∈ l', x ∈ l) : dstB l' N = true :=
  List.all_eq_true.2 fun x hx => List.all_eq_true.1 h x (hs x hx)

theorem yield_ok {l : Nat} {xs : List (List D)} (hY : Yields P m n J l xs) {ops r : List Oper} {o : Oper} {N : Nat} {ro : Option Nat} {Kp : DS → Option Nat → Prop} {Q' : Exit → Act → World → Prop} {K0 : KSet} {w0 : World}
    (hK : ∀ s g K a w, s.n = N → Kp s g → Flat m n s K a w → J g w K → Ext w0 K0 w K → wpListIn (rd ro) 0 P ops.toArray Q' r a w) {K : KSet} {a : Act} {w : World} (hb : dstB [o] N = true) (hn : s.n = N) (hf : Flat m n s K a w) (hj : J g w K) (he : Ext w0 K0 w K)
    (h : yieldD P ops l xs o s g Kp) : wpListIn (rd ro) 0 P ops.toArray Q' (o :: r) a w := by
  obtain ⟨h0, h1, _⟩ := dstB_cons hb
  have hd : ∀ d, o.dst = some d → d < s.n := fun d hd => by rw [hn]; exact h1 d hd
  refine wpListIn_step fun K' hK' => ?_
  obtain ⟨t, ht, hfa, htr⟩ := h
  have hrel := hf.rel ro
  rw [wantD_ok ht ⟨_, hrel⟩]
  cases t with
  | false =>
    simp only [Bool.false_eq_true, if_false]
    refine ⟨fun f _ => rd_fn ro f, hK' _ _ (hK _ g K _ w (by rw [put_n]; exact hn) (hfa rfl) (hf.put (fun _ _ _ => rfl) (Nat.le_refl _) (fun _ _ h => h) hd ?_) hj he)⟩
    exact .tup [] #[] rfl (fun j d v h1 _ => by simp at h1)
  | true =>
    simp only [if_true]
    obtain ⟨f, args, tys, k, ds, ho, hfv, rfl, hx, hle, hb2⟩ := htr rfl
    have hv := hf.ev f
    rw [hfv] at hv
    have hfe : a.eval f = .func (.yield l) #[] #[] := hv.lit
    obtain ⟨hlen, hget⟩ := hle.get
    obtain ⟨fn, tmps, assign, body, hy, hR⟩ := hY.2 k ds w K (args.map a.eval) hx hj hf.mrk (by rw [← hlen]; simp) (fun j d v g1 g2 => by
      obtain ⟨d0, g3, g4⟩ := hget j d g1
      refine g4 w _ v ?_
      rw [List.getElem?_map] at g3
      rw [Array.getElem?_map] at g2
      cases hc : args[j]? with
      | none => rw [hc] at g2; cases g2
      | some x =>
        rw [Array.getElem?_toList] at g3
        rw [hc] at g2 g3
        injection g2 with g2; injection g3 with g3
        rw [← g2, ← g3]; exact hf.ev x)
    have hrun : (execOp a.eval o).run P w = .ok (.round l fn tmps assign body) w := by
      unfold execOp
      simp only [ho, Sem.run_bind]
      have hres : (resolve a.eval { callee := .value f, args := args, argTypes := tys } o.type).run P w = .ok { target := .fn (.yield l) #[], args := args.map a.eval } w := by simp [resolve, hfe, Deferred.ofValue]
      rw [hres]
      simp only [Result.andThen_ok, invoke]
      exact hy
    refine ⟨fun f _ => rd_fn ro f, ?_⟩
    rw [rd_round, Oper.semAt_eq ro _ o h0, hrun, Oper.uponIn_round]
    refine ⟨fun e => (by rw [rd_depth] at e; cases e), (roundIn_rd hR).mono ?_⟩
    rintro e W' ⟨b, rfl, q1, q2⟩
    have hln := hY.1
    exact hK' _ _ (hK _ _ K _ W' (by rw [put_n]; exact hn) (hb2 b) (hf.put q2.cells q2.size (fun D hD hh => q2.others D _ hD hh (by simp)) hd (.one _ _ (.c _ _ (.lit _ rfl)))) q1
      (he.trans fun b o hb => ⟨hb, q2.cells b o hb⟩))

theorem iw_region (hJ : Stab n J) {l : Nat} {xs : List (List D)} (hY : Yields P m n J l xs) {id : Nat} {ops : List Oper} (i : Nat) {o : Oper} (ho : ops[i]? = some o) (hb : dstB ops s.n = true)
    (h : wk P (ops.map (·.dst)) (tagS (ops.take i)) s.bare fun s1 => yieldD P ops l xs o s1.flat g fun s2 g2 => wk P (ops.map (·.dst)) (tagS (ops.drop (i + 1))) s2.bare fun s3 => Q .normal s3.flat g2) : IW P m n J ro (.region id ops.toArray false) s g Q := by
  intro K a w hf hj
  have hi : i < ops.length := (List.getElem?_eq_some_iff.1 ho).1
  have hsp : ops = ops.take i ++ (o :: ops.drop (i + 1)) := by
    have : o = ops[i] := by rw [List.getElem?_eq_getElem hi] at ho; injection ho with ho; exact ho.symm
    rw [this, ← List.drop_eq_getElem_cons hi, List.take_append_drop]
  have hol : o ∈ ops := List.mem_of_getElem? ho
  refine wpIn_region_lit ?_
  conv => arg 6; rw [hsp]
  refine walk_pre (X := ⟨w, K, fun _ _ => False, (E0 K).ρ, NB, ro, m⟩) (N := s.n) (fun s1 a1 w1 hn1 hs1 hr1 => ?_) (ops.take i) s.bare a w (dstB_sub hb fun x hx => List.mem_of_mem_take hx) rfl ⟨_, hf.rel ro⟩ (wk_walkS _ _ h)
  obtain ⟨K1, q1, q2, q3⟩ := flat_after hf hJ hj hr1
  refine yield_ok (s := s1.flat) (N := s.n) (w0 := w) (K0 := K) hY (fun s2 g2 K2 a2 w2 hn2 hs2 hf2 hj2 he2 => ?_) (dstB_sub hb fun x hx => by simp at hx; exact hx ▸ hol) hn1 q1 q2 q3 hs1
  have := walk_pre (X := ⟨w2, K2, fun _ _ => False, (E0 K2).ρ, NB, ro, m⟩) (N := s.n) (r := []) (Q' := fun e a' w' => ∃ s' g' K', Q e s' g' ∧ Flat m n s' K' a' w' ∧ J g' w' K' ∧ Ext w K w' K') (fun s3 a3 w3 _ hs3 hr3 => ?_) (ops.drop (i + 1)) s2.bare a2 w2 (dstB_sub hb fun x hx => List.mem_of_mem_drop hx) hn2 ⟨_, hf2.rel ro⟩ (wk_walkS _ _ hs2)
  · rw [List.append_nil] at this; exact this
  · obtain ⟨K3, p1, p2, p3⟩ := flat_after hf2 hJ hj2 hr3
    exact wpListIn_nil ⟨_, g2, K3, hs3, p1, p2, he2.trans p3⟩

def iterQ (N : Nat) : Exit → DS → Option Nat → Prop
  | .normal, _, g | .ret, _, g => g = some N ∨ g = none
  | _, _, _ => False

theorem seqD_intro {f : FuncId} {fn : Func} {c : Code} {caps : List D} {xs : List (List D)} (hp : Program.plainF P f = true) (hf : P.funcs[f]? = some fn) (hb : fn.body = some c) (hres : fn.results.toList = []) (hn : caps.length + 1 ≤ fn.ntmps) (hN : fn.ntmps ≤ NB)
    (h : ∀ (n l : Nat) (J : Option Nat → World → KSet → Prop), Stab n J → Yields P n n J l xs → IW P n n J none c (initE fn.ntmps (.one (.c (.lit (.func (.yield l) #[] #[]))) :: caps) noMem) (some 0) (iterQ xs.length)) : SeqD P f caps xs := by
  refine ⟨hp, fun w K vs hk hl hv l J hlw hJ hY h0 => ?_⟩
  refine callsIn_of_wp_marks hf hb trivial ?_
  have hflat : Flat w.heap.size w.heap.size (initE fn.ntmps (.one (.c (.lit (.func (.yield l) #[] #[]))) :: caps) noMem) K { tmps := (#[Value.func (.yield l) #[] #[]] ++ vs) ++ Array.replicate (fn.ntmps - (#[Value.func (.yield l) #[] #[]] ++ vs).size) undef, defers := [] } w := by
    refine ⟨hk, fun t => ?_, ?_, hN, Nat.le_refl _, Nat.le_refl _, ⟨[], .nil, rfl, fun _ h => by cases h⟩⟩
    · simp only [initE]
      cases t with
      | zero =>
        have h3 : ((#[Value.func (.yield l) #[] #[]] ++ vs) ++ Array.replicate (fn.ntmps - (#[Value.func (.yield l) #[] #[]] ++ vs).size) undef).getD 0 undef = .func (.yield l) #[] #[] := by
          simp [Array.getElem?_append]
        rw [h3]
        exact .one _ _ (.c _ _ (.lit _ rfl))
      | succ t =>
        by_cases ht : t < caps.length
        · have h1 : caps[t]? = some (caps.getD t .any) := by simp [List.getD, ht]
          have h2 : vs[t]? = some (vs[t]'(by omega)) := Array.getElem?_eq_getElem (by omega)
          have h3 : ((#[Value.func (.yield l) #[] #[]] ++ vs) ++ Array.replicate (fn.ntmps - (#[Value.func (.yield l) #[] #[]] ++ vs).size) undef).getD (t + 1) undef = vs[t]'(by omega) := by
            have : t < vs.size := by omega
            simp [Array.getElem?_append, this]
          rw [h3]
          simpa using hv t _ _ h1 h2
        · have : (D.one (.c (.lit (.func (.yield l) #[] #[]))) :: caps).getD (t + 1) .any = .any := by simp [List.getD, List.getElem?_eq_none (Nat.le_of_not_lt ht)]
          rw [this]; exact .any _
    · simp [initE]; omega
  refine wpIn_mono (h w.heap.size l J hJ ⟨hlw, hY⟩ K _ w hflat h0) ?_
  rintro e a' w' ⟨s', g', K', hq, hf', hj', _⟩
  have key : ∀ (Ds : List Nat) (w' : World), Ds.Nodup → J g' w' K' → (∀ D ∈ Ds, w.heap.size ≤ D ∧ w'.heap[D]? = some (.deferred (some []))) → (g' = some xs.length ∨ g' = none) →
      LeavesInM Fence.wide 0 P fn a'.tmps (fun e W' => (∃ v, e = .returned v) ∧ ∃ L, J (some xs.length) W' L ∨ J none W' L) (Ds.map (fun D => { target := .collected D, args := #[] })) .returning w' := by
    intro Ds
    induction Ds with
    | nil =>
      intro w' _ hj _ hg
      refine ⟨.tuple #[], ?_, ⟨_, rfl⟩, K', ?_⟩
      · rw [results_eq]
        have : fn.results = #[] := by rw [← Array.toList_eq_nil_iff]; exact hres
        rw [this]; simp
      · rcases hg with rfl | rfl
        · exact .inl hj
        · exact .inr hj
    | cons D Ds ih =>
      intro w' hnd hj hD hg
      obtain ⟨h1, h2⟩ := List.nodup_cons.1 hnd
      obtain ⟨h3, h4⟩ := hD D (by simp)
      refine ⟨by simp, .inl ⟨D, _, rfl, run_takeDeferred h4, ih _ h2 (hJ _ _ _ K' K' hj (Hush.putObj _ h3 h4 (by simp)) fun _ _ h => .inl h) (fun D' hD' => ?_) hg⟩⟩
      obtain ⟨g1, g2⟩ := hD D' (by simp [hD'])
      exact ⟨g1, (World.putObj_heap_other (show D' ≠ D from fun e => h1 (by rw [← e]; exact hD'))).trans g2⟩
  obtain ⟨Ds, hnd, hds, hD⟩ := hf'.defers
  have hpost : iterQ xs.length e s' g' → e = .normal ∨ e = .ret → LeavesInM Fence.wide 0 P fn a'.tmps (fun e W' => (∃ v, e = .returned v) ∧ ∃ L, J (some xs.length) W' L ∨ J none W' L) a'.defers .returning w' := fun hq he => by
    rw [hds]
    refine key Ds w' hnd hj' hD ?_
    rcases he with rfl | rfl <;> exact hq
  cases e with
  | normal => exact hpost hq (.inl rfl)
  | ret => exact hpost hq (.inr rfl)
  | _ => exact hq.elim

@[go_sem] theorem thenI_normal {next : DS → Option Nat → Prop} {s : DS} {g : Option Nat} : thenI next Q .normal s g = next s g := rfl
@[go_sem] theorem thenI_ret {next : DS → Option Nat → Prop} {s : DS} {g : Option Nat} : thenI next Q .ret s g = Q .ret s g := rfl
@[go_sem] theorem thenI_exit {next : DS → Option Nat → Prop} {s : DS} {g : Option Nat} {i : Nat} : thenI next Q (.exit i) s g = Q (.exit i) s g := rfl
@[go_sem] theorem inBlockI_normal {s : DS} {g : Option Nat} {i : Nat} : inBlockI i Q .normal s g = Q .normal s g := rfl
@[go_sem] theorem inBlockI_ret {s : DS} {g : Option Nat} {i : Nat} : inBlockI i Q .ret s g = Q .ret s g := rfl
@[go_sem] theorem inBlockI_exit {s : DS} {g : Option Nat} {i j : Nat} : inBlockI i Q (.exit j) s g = if j = i then Q .normal s g else Q (.exit j) s g := rfl
attribute [go_sem] DS.flat DS.bare noName

end
end
end Go.Dl

/- The logic of data: a loop over a function in the text of an iterator. -/
namespace Go.Dl
open Go.RowKit
noncomputable section

def roundI (s : DS) (G : Nat → Option Nat) (k : Nat) (Q : Exit → DS → Option Nat → Prop) : Exit → DS → Option Nat → Prop
  | .normal, _, g => g = G (k + 1)
  | .ret, _, g => Q .ret s g
  | .exit id, _, g => Q (.exit id) s g
  | .goto l, _, g => Q (.goto l) s g
  | _, _, _ => False

def DS.rnd (s : DS) (ps : List Nat) (ds : List D) : DS := s.puts (ps.zip (ds.map (D.tr noName)))

section
variable {P : Program} {m n : Nat} {J : Option Nat → World → KSet → Prop} {s : DS} {Q : Exit → DS → Option Nat → Prop}

theorem Flat.puts {K : KSet} {w : World} : ∀ (l : List (Nat × Value × D)) (s : DS) (a : Act), Flat m n s K a w → (∀ p ∈ l, p.1 < s.n ∧ VD w (E0 K) p.2.2 p.2.1) →
    Flat m n (s.puts (l.map fun p => (p.1, p.2.2))) K { a with tmps := (l.map fun p => (p.1, p.2.1)).foldl (fun t p => t.setIfInBounds p.1 p.2) a.tmps } w
  | [], s, a, h, _ => h
  | p :: l, s, a, h, hl => by
    obtain ⟨h1, h2⟩ := hl p (by simp)
    have h3 := h.put (dst := some p.1) (fun _ _ _ => rfl) (Nat.le_refl _) (fun _ _ h => h) (fun d hd => by injection hd with hd; subst hd; exact h1) h2
    exact Flat.puts l _ _ h3 (fun q hq => by rw [put_n]; exact hl q (by simp [hq]))

theorem Flat.move {K K' : KSet} {a a' : Act} {w w' : World} {m' n' : Nat} (h : Flat m n s K a w) (he : Ext w K w' K') (hk : KOk w' K') (ht : a'.tmps = a.tmps) (hn : n' ≤ w'.heap.size) (hmn : m' ≤ n')
    (hd : ∃ Ds : List Nat, Ds.Nodup ∧ a'.defers = Ds.map (fun D => { target := .collected D, args := #[] }) ∧ ∀ D ∈ Ds, m' ≤ D ∧ w'.heap[D]? = some (.deferred (some []))) : Flat m' n' s K' a' w' :=
  ⟨hk, fun t => by rw [ht]; exact (h.sl t).mono he.later, by rw [ht]; exact h.size, h.small, hn, hmn, hd⟩

theorem Hush.ext {q : Nat} {w w' : World} (c : Hush q w w') {K K' : KSet} (hk : KOk w K) (hK : ∀ b o, K b o → K' b o) : Ext w K w' K' := fun b o hb => by
  obtain ⟨arr, e, m, h⟩ := cells_of_cell (hk b o hb)
  exact ⟨hK b o hb, World.cell?_of_block (w := w) (a := ⟨b, o, none⟩) (c.cells b arr e m h)⟩

def withObj (J : Option Nat → World → KSet → Prop) (R : Nat → Obj → Prop) : Option Nat → World → KSet → Prop := fun g W L => J g W L ∧ ∀ b o, R b o → W.heap[b]? = some o

theorem stab_with (hJ : Stab n J) {n' : Nat} (hn : n ≤ n') {R : Nat → Obj → Prop} (hR : ∀ b o, R b o → b < n') : Stab n' (withObj J R) := fun g A B L L' h hu hL =>
  ⟨hJ g A B L L' h.1 (hu.mono hn) hL, fun b o hp => (hu.old b (hR b o hp)).trans (h.2 b o hp)⟩

theorem yields_with {l : Nat} {xs : List (List D)} (hY : Yields P m n J l xs) {m' n' : Nat} (hm : m ≤ m') (hn : n ≤ n') {R : Nat → Obj → Prop} (hR : ∀ b o, R b o → m ≤ b ∧ ∀ arr e m, o ≠ Obj.cells arr e m) : Yields P m' n' (withObj J R) l xs := by
  refine ⟨Nat.lt_of_lt_of_le hY.1 hm, fun k ds W L va h1 h2 h3 h4 h5 => ?_⟩
  obtain ⟨fn, tmps, assign, body, hy, hr⟩ := hY.2 k ds W L va h1 h2.1 (Nat.le_trans hn h3) h4 h5
  refine ⟨fn, tmps, assign, body, hy, hr.mono ?_⟩
  rintro e W' ⟨b, rfl, q1, q2⟩
  exact ⟨b, rfl, ⟨q1, fun p o hp => q2.others p o (hR p o hp).1 (h2.2 p o hp) (hR p o hp).2⟩, q2.size, q2.cells, fun c ob hc => q2.others c ob (Nat.le_trans hm hc)⟩

theorem iw_rangeFunc {g : Operand} {ps : Array Tmp} {assign body : Code} {gf : FuncId} {caps : List T} {ys : List (List D)} (hJ : Stab n J) {lo : Nat} {xs : List (List D)} (hY : Yields P m n J lo xs) (G : Nat → Option Nat) 
    (hg : (s.ev g).asFn = some (gf, caps)) (hseq : SeqD P gf (caps.map fun t => .one (.c t.cl)) ys) (hps : ∀ p ∈ ps.toList, p < s.n) (hxs : ∀ ds ∈ ys, ds.length = ps.size)
    (hround : ∀ k ds, ys[k]? = some ds → ∀ r n1 J1, Stab n1 J1 → Yields P n1 n1 J1 lo xs → IW P n1 n1 J1 (some r) assign (s.rnd ps.toList ds) (G k) (thenI (fun s1 g1 => ∀ n2 J2, Stab n2 J2 → Yields P n2 n2 J2 lo xs → IW P n2 n2 J2 (some r) body s1 g1 (roundI s G k Q)) (fun _ _ _ => False)))
    (hdone : Q .normal s (G ys.length)) : IW P m n J none (.rangeFunc g ps assign body) s (G 0) Q := by
  intro K a w hf hj
  obtain ⟨captured, hfv, hcs, hcv⟩ := asFn_ok hg (hf.ev g)
  obtain ⟨Ds, hnd, hds, hDs⟩ := hf.defers
  have hnw := hf.mrk
  refine wpIn_rangeFunc (F := Fence.wide) ?_
  intro fn _
  obtain ⟨rec, hrec⟩ : ∃ rec : LoopState → Option Code → Loop, rec = fun st pe => { state := st, pending := pe, fn, tmps := a.tmps, params := ps, assign, body, defers := w.heap.size } := ⟨_, rfl⟩
  obtain ⟨W1, hW1⟩ : ∃ W1, (w.alloc (.deferred (some []))).alloc (.loop (rec .ready none)) = W1 := ⟨_, rfl⟩
  have hsz1 : W1.heap.size = w.heap.size + 2 := by rw [← hW1]; simp
  have hL1 : W1.heap[w.heap.size + 1]? = some (.loop (rec .ready none)) := by
    rw [← hW1]; have := World.alloc_heap_new (w.alloc (.deferred (some []))) (.loop (rec .ready none)); rwa [World.size_alloc] at this
  have hK1 : W1.heap[w.heap.size]? = some (.deferred (some [])) := by
    rw [← hW1]; exact (Below.heap_alloc _ _ _ (by simp)).trans (World.alloc_heap_new w _)
  have hush1 : Hush w.heap.size w W1 := by rw [← hW1]; exact (Hush.alloc _ (Nat.le_refl _)).trans (Hush.alloc _ (by simp))
  have hDlt : ∀ D ∈ Ds, D < w.heap.size := fun D hD => (Array.getElem?_eq_some_iff.1 (hDs D hD).2).1
  have hDs1 : ∀ D ∈ w.heap.size :: Ds, W1.heap[D]? = some (.deferred (some [])) := fun D hD => by
    rcases List.mem_cons.1 hD with rfl | hD
    · exact hK1
    · exact (hush1.old D (hDlt D hD)).trans (hDs D hD).2
  have hnd1 : (w.heap.size :: Ds).Nodup := List.nodup_cons.2 ⟨fun h => by have := hDlt _ h; omega, hnd⟩
  have hDlt1 : ∀ D ∈ w.heap.size :: Ds, D < w.heap.size + 1 := fun D hD => by
    rcases List.mem_cons.1 hD with rfl | hD
    · omega
    · have := hDlt D hD; omega
  have hDge1 : ∀ D ∈ w.heap.size :: Ds, m ≤ D := fun D hD => by
    rcases List.mem_cons.1 hD with rfl | hD
    · exact Nat.le_trans hf.mn hnw
    · exact (hDs D hD).1
  have hext1 : Ext w K W1 K := hush1.ext hf.kok (fun _ _ h => h)
  have hkok1 : KOk W1 K := hf.kok.wide hext1 fun b o hb => by rw [(hext1 b o hb).2]; exact hf.kok b o hb
  have hlo : lo < m := hY.1
  have hmn := hf.mn
  have hit := hseq.2 W1 K captured hkok1 (by simpa using hcs) (fun j d v h1 h2 => by
    rw [List.getElem?_map] at h1
    cases hc : caps[j]? with
    | none => rw [hc] at h1; cases h1
    | some t => rw [hc] at h1; injection h1 with h1; subst h1; exact .one _ _ (.c _ _ ((hcv j t v hc h2).cl.mono hext1)))
  refine ⟨w.heap.size + 1, [{ target := .collected w.heap.size, args := #[] }], W1, { target := .fn (.func gf) captured, args := #[.func (.yield (w.heap.size + 1)) #[] #[]] }, W1, gf,
    #[.func (.yield (w.heap.size + 1)) #[] #[]] ++ captured, W1, ?_, ?_, fun _ _ => trivial, ?_, fun h => (by cases h), ?_⟩
  · rw [← hW1, hrec]; exact run_enterLoop_outer _ _ _ _ _
  · have h := resolve_value (P := P) a.eval g #[.const (.func (.yield (w.heap.size + 1)) #[] #[])] #[] 0 gf captured hfv W1
    simpa [Act.eval] using h
  · exact plainF_ok hseq.1 _ W1
  -- the marks and the record, as blocks beside the caller's world
  let mk : Obj → Nat → Obj → Prop := fun o b ob => (b = w.heap.size + 1 ∧ ob = o) ∨ (b ∈ w.heap.size :: Ds ∧ ob = .deferred (some []))
  have mkOk : ∀ (o : Obj), (∀ arr e m, o ≠ Obj.cells arr e m) → ∀ b ob, mk o b ob → b < W1.heap.size ∧ m ≤ b ∧ ∀ arr e m, ob ≠ Obj.cells arr e m := fun o ho b ob hp => by
    rcases hp with ⟨rfl, rfl⟩ | ⟨hD, rfl⟩
    · exact ⟨by omega, by omega, ho⟩
    · have h1 := hDlt1 b hD; have h2 := hDge1 b hD
      exact ⟨by omega, h2, by simp⟩
  let a0 : Act := { a with defers := [] }
  have nilD : ∀ (q : Nat) (W : World), ∃ Ds : List Nat, Ds.Nodup ∧ ([] : List Deferred) = Ds.map (fun D => { target := .collected D, args := #[] }) ∧ ∀ D ∈ Ds, q ≤ D ∧ W.heap[D]? = some (.deferred (some [])) := fun q W => ⟨[], .nil, rfl, fun _ h => by cases h⟩
  let Jk : Nat → World → KSet → Prop := fun k W L => ∃ K', Flat m n s K' a0 W ∧ (∀ b o, L b o → K' b o) ∧ Ext W1 K W K' ∧ withObj J (mk (.loop (rec .ready none))) (G k) W K' ∧ W1.heap.size ≤ W.heap.size
  let Jx : World → Prop := fun W => ∃ c g' K', Flat m n s K' a0 W ∧ Ext W1 K W K' ∧ withObj J (mk (.loop (rec .done (some c)))) g' W K' ∧
    ∀ a' W' K', Flat m n s K' a' W' → J g' W' K' → c.wpIn Fence.wide 0 P (fun e a w => ∃ s' g' K2, Q e s' g' ∧ Flat m n s' K2 a w ∧ J g' w K2 ∧ Ext W' K' w K2) a' W'
  let J' : Option Nat → World → KSet → Prop := fun g W L => match g with | some k => Jk k W L | none => Jx W
  refine (hit (w.heap.size + 1) J' (by omega) ?_ ?_ ?_).mono ?_
  · rintro g A B L L' hJ' hu hL
    cases g with
    | some k =>
      obtain ⟨K', h1, h0, h2, h3, h4⟩ := hJ'
      refine ⟨fun b o => K' b o ∨ (A.heap.size ≤ b ∧ (B.cell? ⟨b, o, none⟩).isSome = true), ?_, fun b o hb => (hL b o hb).imp (h0 b o) id, h2.trans (hu.ext h1.kok fun _ _ h => .inl h), ?_, Nat.le_trans h4 hu.size⟩
      · refine h1.move (hu.ext h1.kok fun _ _ h => .inl h) (h1.kok.wide (hu.ext h1.kok fun _ _ h => .inl h) fun b o hb => ?_) rfl (Nat.le_trans h1.mrk hu.size) h1.mn (nilD _ _)
        rcases hb with hb | hb
        · rw [((hu.ext h1.kok fun _ _ h => h) b o hb).2]; exact h1.kok b o hb
        · exact hb.2
      · exact stab_with hJ (by omega) (fun b ob hp => (mkOk _ (by simp) b ob hp).1) _ A B K' _ h3 hu fun b o hb => hb
    | none =>
      obtain ⟨c, g', K', h1, h2, h3, h5⟩ := hJ'
      refine ⟨c, g', K', h1.move (hu.ext h1.kok fun _ _ h => h) (h1.kok.wide (hu.ext h1.kok fun _ _ h => h) fun b o hb => ?_) rfl (Nat.le_trans h1.mrk hu.size) h1.mn (nilD _ _), h2.trans (hu.ext h1.kok fun _ _ h => h), stab_with hJ (by omega) (fun b ob hp => (mkOk _ (by simp) b ob hp).1) _ A B K' K' h3 hu fun b o hb => .inl hb, h5⟩
      rw [((hu.ext h1.kok fun _ _ h => h) b o hb).2]; exact h1.kok b o hb
  · -- one round
    rintro k ds W L va hkx ⟨K', h1, hL, h2, h3, h4⟩ _ v1 v2
    have hl : W.heap[w.heap.size + 1]? = some (.loop (rec .ready none)) := h3.2 _ _ (.inl ⟨rfl, rfl⟩)
    have hlen : ds.length = ps.size := hxs _ (List.mem_of_getElem? hkx)
    have hy := run_yield (P := P) (args := va) hl (by rw [hrec]; exact v1.trans hlen)
    have hlW : w.heap.size + 1 < W.heap.size := (Array.getElem?_eq_some_iff.1 hl).1
    let rk : Obj → Nat → Obj → Prop := fun o b ob => (b = w.heap.size + 1 ∧ ob = o) ∨ (b ≠ w.heap.size + 1 ∧ m ≤ b ∧ W.heap[b]? = some ob ∧ ∀ arr e m, ob ≠ Obj.cells arr e m)
    have rkOk : ∀ (o : Loop) b ob, rk (.loop o) b ob → b < W.heap.size ∧ m ≤ b ∧ ∀ arr e m, ob ≠ Obj.cells arr e m := fun o b ob hp => by
      rcases hp with ⟨rfl, rfl⟩ | ⟨_, hb, hob, hc⟩
      · exact ⟨hlW, by omega, by simp⟩
      · exact ⟨(Array.getElem?_eq_some_iff.1 hob).1, hb, hc⟩
    have hst : ∀ o : Loop, Stab W.heap.size (withObj J (rk (.loop o))) := fun o => stab_with hJ (by omega) fun b ob hp => (rkOk o b ob hp).1
    have hys : ∀ o : Loop, Yields P W.heap.size W.heap.size (withObj J (rk (.loop o))) lo xs := fun o => yields_with hY (by omega) (by omega) fun b ob hp => (rkOk o b ob hp).2
    have h3r : withObj J (rk (.loop (rec .ready none))) (G k) W K' := ⟨h3.1, fun b ob hp => by
      rcases hp with ⟨rfl, rfl⟩ | ⟨_, _, hob, _⟩
      · exact hl
      · exact hob⟩
    obtain ⟨z1, z2⟩ := zip3 ps.toList va.toList (ds.map (D.tr noName)) (by simp [v1])
    have hput := Flat.puts (ps.toList.zip (va.toList.zip (ds.map (D.tr noName)))) s { tmps := a.tmps, defers := [] } (h1.move (m' := W.heap.size) (n' := W.heap.size) (Ext.refl _ _) h1.kok rfl (Nat.le_refl _) (Nat.le_refl _) (nilD _ _)) (fun p hp => by
      obtain ⟨i, hi⟩ := List.getElem?_of_mem hp
      rw [List.getElem?_zip_eq_some, List.getElem?_zip_eq_some] at hi
      obtain ⟨g1, g2, g3⟩ := hi
      refine ⟨hps _ (List.mem_of_getElem? g1), ?_⟩
      rw [List.getElem?_map] at g3
      cases hd : ds[i]? with
      | none => rw [hd] at g3; cases g3
      | some d =>
        rw [hd] at g3; injection g3 with g3
        rw [← g3]
        have hla : Later W (E0 L) W (E0 K') := ⟨fun b o hb => ⟨hL b o hb, rfl⟩, rfl, rfl⟩
        exact VD.tr (renames_none (E0 K') (E0 K') rfl) ((v2 i d p.2.1 hd (by simpa using g2)).mono hla))
    rw [z1, z2] at hput
    have htm : (((rec .ready none).params.zip va).foldl (fun tmps (p : Tmp × Value) => tmps.setIfInBounds p.1 p.2) (rec .ready none).tmps) = (ps.toList.zip va.toList).foldl (fun t p => t.setIfInBounds p.1 p.2) a.tmps := by
      rw [hrec]; exact foldl_zip _ _ _
    refine ⟨_, _, _, _, hy, ?_⟩
    have hass := hround k ds hkx (w.heap.size + 1) _ _ (hst _) (hys _) K' _ W hput h3r
    rw [show (rec .ready none).assign = assign by rw [hrec], show (rec .ready none).body = body by rw [hrec]]
    refine roundIn_of_wpIn trivial ?_
    rw [htm]
    have put : ∀ {W0 : World} {o : Loop} (o' : Loop) {g0 : Option Nat} {K0 : KSet}, withObj J (rk (.loop o)) g0 W0 K0 → (KOk W0 K0) →
        withObj J (rk (.loop o')) g0 (W0.putObj (w.heap.size + 1) (.loop o')) K0 ∧ Ext W0 K0 (W0.putObj (w.heap.size + 1) (.loop o')) K0 ∧ ∀ D, D ≠ w.heap.size + 1 → (W0.putObj (w.heap.size + 1) (.loop o')).heap[D]? = W0.heap[D]? := fun {W0 o} o' {g0 K0} hw hk => by
      have hlo := hw.2 _ _ (.inl ⟨rfl, rfl⟩)
      have hu : Hush n W0 (W0.putObj (w.heap.size + 1) (.loop o')) := Hush.putObj _ (by omega) hlo (by simp)
      refine ⟨⟨hJ _ _ _ _ K0 hw.1 hu fun b o h => .inl h, fun b ob hp => ?_⟩, hu.ext hk fun _ _ h => h, fun D hD => World.putObj_heap_other hD⟩
      rcases hp with ⟨rfl, rfl⟩ | ⟨hb, hr⟩
      · exact World.putObj_heap_same (Array.getElem?_eq_some_iff.1 hlo).1
      · exact (World.putObj_heap_other hb).trans (hw.2 b ob (.inr ⟨hb, hr⟩))
    refine wpIn_mono hass ?_
    rintro e a1 W2 ⟨s1, g1, K1, hs1, f1, j1, e1⟩
    cases e with
    | normal =>
      have hl2 := j1.2 _ _ (.inl ⟨rfl, rfl⟩)
      refine ⟨_, run_beginRound hl2 (by rw [hrec]), ?_⟩
      obtain ⟨p1, p2, p3⟩ := put { rec .ready none with state := .busy } j1 f1.kok
      have f2 : Flat W.heap.size W.heap.size s1 K1 a1 (W2.putObj (w.heap.size + 1) (.loop { rec .ready none with state := .busy })) := by
        refine f1.move p2 (f1.kok.wide p2 fun b o hb => by rw [(p2 b o hb).2]; exact f1.kok b o hb) rfl (by simpa using f1.mrk) (Nat.le_refl _) ?_
        obtain ⟨Ds2, q1, q2, q3⟩ := f1.defers
        exact ⟨Ds2, q1, q2, fun D hD => ⟨(q3 D hD).1, (p3 D (by have := (q3 D hD).1; omega)).trans (q3 D hD).2⟩⟩
      refine wpIn_mono (hs1 _ _ (hst _) (hys _) K1 a1 _ f2 p1) ?_
      have after : ∀ (jump : Option Code) {s4 : DS} {g4 : Option Nat} {K4 : KSet} {a4 : Act} {W4 : World}, Flat W.heap.size W.heap.size s4 K4 a4 W4 → withObj J (rk (.loop { rec .ready none with state := .busy })) g4 W4 K4 → Ext (W2.putObj (w.heap.size + 1) (.loop { rec .ready none with state := .busy })) K1 W4 K4 →
          ∃ W5, (Instr.endRound (w.heap.size + 1) jump).run P W4 = .ok (.bool jump.isNone) W5 ∧ Flat m n s K4 a0 W5 ∧ withObj J (mk (.loop (rec (if jump.isNone then .ready else .done) jump))) g4 W5 K4 ∧ Ext W K' W5 K4 ∧ Keep W1.heap.size L W W5 := by
        intro jump s4 g4 K4 a4 W4 f4 j4 e4
        have hl4 := j4.2 _ _ (.inl ⟨rfl, rfl⟩)
        have hrun := run_endRound (P := P) jump hl4
        have he5 : (.loop { ({ rec .ready none with state := .busy } : Loop) with state := if jump.isNone then .ready else .done, pending := jump } : Obj) = .loop (rec (if jump.isNone then .ready else .done) jump) := by rw [hrec]
        rw [he5] at hrun
        obtain ⟨q1, q2, q3⟩ := put (rec (if jump.isNone then .ready else .done) jump) j4 f4.kok
        have hext : Ext W K' (W4.putObj (w.heap.size + 1) (.loop (rec (if jump.isNone then .ready else .done) jump))) K4 := e1.trans (p2.trans (e4.trans q2))
        have hsz : W.heap.size ≤ (W4.putObj (w.heap.size + 1) (.loop (rec (if jump.isNone then .ready else .done) jump))).heap.size := by simpa using f4.mrk
        refine ⟨_, hrun, h1.move hext (f4.kok.wide q2 fun b o hb => by rw [(q2 b o hb).2]; exact f4.kok b o hb) rfl (Nat.le_trans h1.mrk hsz) h1.mn (nilD _ _), ⟨q1.1, fun b ob hp => ?_⟩, hext, hsz, fun b o hb => (hext b o (hL b o hb)).2, fun b ob hb hob hc => ?_⟩
        · rcases hp with ⟨rfl, rfl⟩ | ⟨hD, rfl⟩
          · exact q1.2 _ _ (.inl ⟨rfl, rfl⟩)
          · have hlt := hDlt1 b hD
            exact q1.2 _ _ (.inr ⟨by omega, hDge1 b hD, h3.2 _ _ (.inr ⟨hD, rfl⟩), by simp⟩)
        · exact q1.2 _ _ (.inr ⟨by omega, by omega, hob, hc⟩)
      rintro e a4 W4 ⟨s4, g4, K4, hq, f4, j4, e4⟩
      have stop : ∀ (c : Code), (∀ a' W' K', Flat m n s K' a' W' → J g4 W' K' → c.wpIn Fence.wide 0 P (fun e a w => ∃ s' g' K2, Q e s' g' ∧ Flat m n s' K2 a w ∧ J g' w K2 ∧ Ext W' K' w K2) a' W') →
          ∃ v w', (Instr.endRound (w.heap.size + 1) (some c)).run P W4 = .ok v w' ∧ ∃ b, Ending.returned v = .returned (.bool b) ∧ J' (if b then some (k + 1) else none) w' L ∧ Keep W1.heap.size L W w' := fun c hc => by
        obtain ⟨W5, g1, g2, g3, g4', g5⟩ := after (some c) f4 j4 e4
        exact ⟨_, W5, g1, false, rfl, ⟨c, _, K4, g2, h2.trans g4', g3, hc⟩, g5⟩
      cases e with
      | normal =>
        obtain ⟨W5, g1, g2, g3, g4', g5⟩ := after none f4 j4 e4
        have hq' : g4 = G (k + 1) := hq
        subst hq'
        exact ⟨_, W5, g1, true, rfl, ⟨K4, g2, fun b o hb => (g4' b o (hL b o hb)).1, h2.trans g4', g3, Nat.le_trans h4 g5.size⟩, g5⟩
      | ret => exact stop .ret fun a' W' K2 q1 q2 => wpIn_ret ⟨s, g4, K2, hq, q1, q2, Ext.refl _ _⟩
      | exit id => exact stop (.exit id) fun a' W' K2 q1 q2 => wpIn_exit ⟨s, g4, K2, hq, q1, q2, Ext.refl _ _⟩
      | goto t => exact stop (.goto t) fun a' W' K2 q1 q2 => wpIn_goto ⟨s, g4, K2, hq, q1, q2, Ext.refl _ _⟩
      | panic ch => exact hq.elim
      | outgrown => exact hq.elim
    | _ => exact hs1.elim
  · refine ⟨K, hf.move hext1 hkok1 rfl (by omega) hf.mn (nilD _ _), fun _ _ h => h, Ext.refl _ _, ⟨hJ _ w W1 K K hj (hush1.mono hnw) fun b o h => .inl h, fun b ob hp => ?_⟩, Nat.le_refl _⟩
    rcases hp with ⟨rfl, rfl⟩ | ⟨hD, rfl⟩
    · exact hL1
    · exact hDs1 b hD
  · have fin : ∀ {o : Loop} {g' : Option Nat} {K' : KSet} {W : World} (o' : Loop), Flat m n s K' a0 W → withObj J (mk (.loop o)) g' W K' → Ext W1 K W K' →
        Flat m n s K' { a with defers := [{ target := .collected w.heap.size, args := #[] }] ++ a.defers } (W.putObj (w.heap.size + 1) (.loop o')) ∧ J g' (W.putObj (w.heap.size + 1) (.loop o')) K' ∧ Ext w K (W.putObj (w.heap.size + 1) (.loop o')) K' := fun {o g' K' W} o' h1 h3 h2 => by
      have hlo := h3.2 _ _ (.inl ⟨rfl, rfl⟩)
      have hu : Hush n W (W.putObj (w.heap.size + 1) (.loop o')) := Hush.putObj _ (by omega) hlo (by simp)
      have he := hu.ext h1.kok fun _ _ h => h
      refine ⟨h1.move he (h1.kok.wide he fun b o hb => by rw [(he b o hb).2]; exact h1.kok b o hb) rfl (Nat.le_trans h1.mrk hu.size) h1.mn ⟨w.heap.size :: Ds, hnd1, by simp [hds], fun D hD => ⟨hDge1 D hD, ?_⟩⟩, hJ _ _ _ _ K' h3.1 hu fun b o h => .inl h, hext1.trans (h2.trans he)⟩
      exact (World.putObj_heap_other (by have := hDlt1 D hD; omega)).trans (h3.2 _ _ (.inr ⟨hD, rfl⟩))
    rintro e W2 ⟨⟨v, rfl⟩, L, ⟨K', h1, _, h2, h3, h4⟩ | ⟨c, g', K', h1, h2, h3, h5⟩⟩
    · have hl := h3.2 _ _ (.inl ⟨rfl, rfl⟩)
      refine ⟨none, _, by have := run_endLoop (P := P) hl (by rw [hrec]; simp); rw [hrec] at this; exact this, ?_⟩
      obtain ⟨q1, q2, q3⟩ := fin _ h1 h3 h2
      exact ⟨s, _, K', hdone, q1, q2, q3⟩
    · have hl := h3.2 _ _ (.inl ⟨rfl, rfl⟩)
      refine ⟨some c, _, by have := run_endLoop (P := P) hl (by rw [hrec]; simp); rw [hrec] at this; exact this, ?_⟩
      obtain ⟨q1, q2, q3⟩ := fin _ h1 h3 h2
      exact wpIn_mono (h5 _ _ K' q1 q2) fun _ _ _ ⟨s2, g2, K2, r1, r2, r3, r4⟩ => ⟨s2, g2, K2, r1, r2, r3, q3.trans r4⟩

end
end
end Go.Dl

/- The logic of data: memory given up for good, for simp; steps of an iterator's text behind which less is known. -/
namespace Go.Dl
open Go.RowKit
noncomputable section

theorem sub_frz {s : DS} (n sz : Nat) (cs : List (List C)) (js : Rows) (hpos : 0 < sz) (hn : s.bx n = some (cs.map (List.map T.c) ++ js)) (hz : ∀ r ∈ cs, r.length = sz) : s.Sub (s.frz n sz cs) :=
  fun _ _ _ ⟨_, hE⟩ => hE.frz hpos hn hz

theorem sub_frz1 {s : DS} (n : Nat) (cs : List C) (hpos : 0 < cs.length) (hn : s.bx n = some [cs.map T.c]) : s.Sub (s.frz n cs.length [cs]) :=
  sub_frz n cs.length [cs] [] hpos (by simpa using hn) (by simp)

theorem dw_frz1 {P : Program} {c : Code} {s : DS} {Q : Exit → DS → Prop} (n : Nat) (cs : List C) (hpos : 0 < cs.length) (hn : s.bx n = some [cs.map T.c]) (h : DW P c (s.frz n cs.length [cs]) Q) : DW P c s Q :=
  dw_weaken (sub_frz1 n cs hpos hn) h

theorem frz_sl (s : DS) (n sz : Nat) (cs : List (List C)) (t : Nat) : (s.frz n sz cs).sl t = (s.sl t).frz n sz cs := rfl
theorem frz_bx (s : DS) (n sz : Nat) (cs : List (List C)) (k : Nat) : (s.frz n sz cs).bx k = if k = n then none else (s.bx k).map (List.map (T.frzAll n sz cs)) := rfl

section
variable {P : Program} {m n : Nat} {J : Option Nat → World → KSet → Prop} {s : DS} {g ro : Option Nat} {Q : Exit → DS → Option Nat → Prop}

theorem iw_pureS {c : Code} (hJ : Stab n J) (h : DW P c s.bare (fun e s' => ∃ s2, s'.Sub s2 ∧ Q e s2.flat g)) : IW P m n J ro c s g Q :=
  iw_pureQ hJ (dw_post h)

end

theorem sub_nilAt {s : DS} (m sz : Nat) (hm : s.bx m = some [[.c (.lit (.slice none 0 0))]]) : s.Sub (s.setBx m (some [[.ex sz []]])) :=
  sub_box m hm rfl fun i r r' h1 h2 => by
    cases i with
    | succ i => simp at h1
    | zero =>
      simp at h1 h2
      subst h1; subst h2
      refine ⟨rfl, fun w E j t t' v h1 h2 hv => ?_⟩
      cases j with
      | succ j => simp at h1
      | zero =>
        simp at h1 h2
        subst h1; subst h2
        cases hv with | c c v hv => cases hv with | lit v h => exact .ex sz [] _ (.nil sz) ⟨none, 0, rfl⟩

theorem sub_nilOwn {s : DS} (m n sz : Nat) (hm : s.bx m = some [[.c (.lit (.slice none 0 0))]]) : s.Sub (((s.setBx m (some [[.ex sz []]])).close [n]).setBx m (some [[.own n sz []]])) :=
  DS.Sub.trans (sub_nilAt m sz hm) (by
    have := sub_ownAt (s := s.setBx m (some [[.ex sz []]])) m 0 0 n sz [] (rows := [[.ex sz []]]) (r := [.ex sz []]) (by simp [DS.setBx]) rfl rfl
    exact this)

theorem dw_rng0 {P : Program} {s : DS} {Q : Exit → DS → Prop} {c : Code} {α : Type} (xs : List α) (S : Nat → DS) (hmax : xs.length ≤ maxLen) (h0 : s.Sub (S 0))
    (body : ∀ k x, xs[k]? = some x → k < xs.length → x ∈ xs → xs.take (k + 1) = xs.take k ++ [x] → decide ((k : Int) < (xs.length : Int)) = true → IntKind.i64.wrap ((k : Int) + 1) = ((k + 1 : Nat) : Int) →
      DW P c (S k) (thenD (fun s' => s'.Sub (S (k + 1))) Q))
    (done : decide ((xs.length : Int) < (xs.length : Int)) = false → DW P c (S xs.length) (thenD (fun _ => False) Q)) : DW P (.loop c) s Q :=
  dw_rng xs (fun k (_ : Unit) => S k) (fun _ _ => True) () hmax h0 trivial (fun k x _ h1 h2 h3 h4 h5 h6 _ => (body k x h1 h2 h3 h4 h5 h6).mono fun e s' h => by
    cases e with
    | normal => exact ⟨(), trivial, h⟩
    | _ => exact h) (fun _ h _ => done h)

theorem dw_rngI {P : Program} {s : DS} {Q : Exit → DS → Prop} {c : Code} {α : Type} (xs : List α) (S : Nat → DS) (Inv : Nat → Prop) (hmax : xs.length ≤ maxLen) (h0 : s.Sub (S 0)) (hi0 : Inv 0)
    (body : ∀ k x, xs[k]? = some x → k < xs.length → x ∈ xs → xs.take (k + 1) = xs.take k ++ [x] → decide ((k : Int) < (xs.length : Int)) = true → IntKind.i64.wrap ((k : Int) + 1) = ((k + 1 : Nat) : Int) → Inv k →
      DW P c (S k) (thenD (fun s' => Inv (k + 1) ∧ s'.Sub (S (k + 1))) Q))
    (done : decide ((xs.length : Int) < (xs.length : Int)) = false → Inv xs.length → DW P c (S xs.length) (thenD (fun _ => False) Q)) : DW P (.loop c) s Q :=
  dw_rng xs (fun k (_ : Unit) => S k) (fun k _ => Inv k) () hmax h0 hi0 (fun k x _ h1 h2 h3 h4 h5 h6 h7 => (body k x h1 h2 h3 h4 h5 h6 h7).mono fun e s' h => by
    cases e with
    | normal => exact ⟨(), h⟩
    | _ => exact h) (fun _ h h7 => done h h7)

theorem CallC.sub {P : Program} {s s' : DS} {f : Operand} {args : List Operand} {tys : Array TypeId} {dst : Option Nat} {ty : TypeId} {pos : String} {aft : Array Edge} {F : D} {A : List D} {ds : List (Option Nat)} {l : List (Mode × Oper)} {K : DS → Prop}
    (hs : s.Sub s') (hn : s'.n = s.n) (h : CallC .step P ⟨dst, .call ⟨.value f, args.toArray, tys⟩, ty, pos, aft, none⟩ (s'.ev f) (args.map s'.ev) s' dst ds l K) :
    CallC .step P ⟨dst, .call ⟨.value f, args.toArray, tys⟩, ty, pos, aft, none⟩ F A s dst ds l K := by
  have h1 : Step P ⟨dst, .call ⟨.value f, args.toArray, tys⟩, ty, pos, aft, none⟩ s' fun s' => wk P ds l s' K := by
    have : opW .step P ⟨dst, .call ⟨.value f, args.toArray, tys⟩, ty, pos, aft, none⟩ s' fun s' => wk P ds l s' K := by
      unfold CallC at h
      simpa [opW] using h
    cases opW_ok this with
    | step h => exact h
  refine CallC.step fun hd X a w hr Q => ?_
  refine Oper.wp_mono ?_ (h1 (fun d hd' => by rw [hn]; exact hd d hd') X a w (hs X a w hr) Q)
  rintro a' w' ⟨s2, ⟨g1, g2⟩, g3⟩
  exact ⟨s2, ⟨g1.trans hn, g2⟩, g3⟩

theorem CallC.frz {P : Program} {s : DS} {f : Operand} {args : List Operand} {tys : Array TypeId} {dst : Option Nat} {ty : TypeId} {pos : String} {aft : Array Edge} {F : D} {A : List D} {ds : List (Option Nat)} {l : List (Mode × Oper)} {K : DS → Prop}
    (n : Nat) (cs : List C) (hpos : 0 < cs.length) (hn : s.bx n = some [cs.map T.c]) (h : CallC .step P ⟨dst, .call ⟨.value f, args.toArray, tys⟩, ty, pos, aft, none⟩ ((s.frz n cs.length [cs]).ev f) (args.map (s.frz n cs.length [cs]).ev) (s.frz n cs.length [cs]) dst ds l K) :
    CallC .step P ⟨dst, .call ⟨.value f, args.toArray, tys⟩, ty, pos, aft, none⟩ F A s dst ds l K :=
  CallC.sub (sub_frz1 n cs hpos hn) rfl h

/-! ### Rounds, for simp -/
theorem midM_noMid (k : Nat) : midM noMid k = False := eq_false (not_noMid k)
theorem callMemM_noMid (bx : Mem) (ns : List Nat) (k : Nat) : callMemM noMid bx ns k = if NB ≤ k ∧ k - NB ∈ ns then (bx (k - NB)).map (Rows.tr (shfM noMid ns)) else none := by
  unfold callMemM; simp only [midM_noMid, if_false]
theorem callMemAftM_noMid (bx H' : Mem) (ns : List Nat) (m : Option Nat) (k : Nat) : callMemAftM noMid bx H' ns m k =
    if m = some k then (H' 0).map (Rows.tr (usfM noMid ns m)) else if k ∈ ns then (H' (k + NB)).map (Rows.tr (usfM noMid ns m)) else (bx k).map (Rows.tr (aftM noMid ns m)) := by
  unfold callMemAftM; simp only [midM_noMid, if_false]
theorem nb_ne (a k : Nat) (h : k < 100000) : (a + NB = k) = False := eq_false (by have := NB_big; omega)
theorem nb_ne' (a k : Nat) (h : k < 100000) : (k = a + NB) = False := eq_false (by have := NB_big; omega)
theorem nb_le (a : Nat) : (NB ≤ a + NB) = True := eq_true (Nat.le_add_left _ _)
theorem nb_nle (k : Nat) (h : k < 100000) : (NB ≤ k) = False := eq_false (by have := NB_big; omega)
theorem nb_sub (a : Nat) : a + NB - NB = a := Nat.add_sub_cancel a NB
theorem nb_inj (a b : Nat) : (a + NB = b + NB) = (a = b) := by simp
theorem nb_zero (a : Nat) : (a + NB = 0) = False := eq_false (by have := NB_big; omega)
theorem roundQ_normal (ms : Nat → Bool) (ns : List Nat) (s : DS) (N : DS → Prop) (Q : Exit → DS → Prop) (t : DS) : roundQ ms ns s N Q .normal t = N (s.aftCallM ms ns none (.tup []) t.bx) := rfl
theorem roundQ_ret (ms : Nat → Bool) (ns : List Nat) (s : DS) (N : DS → Prop) (Q : Exit → DS → Prop) (t : DS) : roundQ ms ns s N Q .ret t = Q .ret (s.aftCallM ms ns none (.tup []) t.bx) := rfl
theorem roundQ_exit (ms : Nat → Bool) (ns : List Nat) (s : DS) (N : DS → Prop) (Q : Exit → DS → Prop) (t : DS) (i : Nat) : roundQ ms ns s N Q (.exit i) t = Q (.exit i) (s.aftCallM ms ns none (.tup []) t.bx) := rfl
theorem round_sl (ms : Nat → Bool) (s : DS) (ns : List Nat) (t : Nat) : (s.round0 ms ns).sl t = (s.sl t).tr (shfM ms ns) := rfl
theorem round_bx (ms : Nat → Bool) (s : DS) (ns : List Nat) (t : Nat) : (s.round0 ms ns).bx t = callMemM ms s.bx ns t := rfl
def oneMid : Nat → Bool := fun k => k == 1000
theorem midM_oneMid (k : Nat) : midM oneMid k = (k = 1000) := by
  have := NB_big
  apply propext
  simp only [midM, oneMid, beq_iff_eq]
  constructor
  · exact fun h => h.2.2
  · rintro rfl; exact ⟨Nat.le_refl _, by omega, rfl⟩
theorem callMemM_oneMid (bx : Mem) (ns : List Nat) (k : Nat) : callMemM oneMid bx ns k = if NB ≤ k ∧ k - NB ∈ ns then (bx (k - NB)).map (Rows.tr (shfM oneMid ns)) else if k = 1000 then (bx k).map (Rows.tr (shfM oneMid ns)) else none := by
  unfold callMemM; simp only [midM_oneMid]
theorem callMemAftM_oneMid (bx H' : Mem) (ns : List Nat) (m : Option Nat) (k : Nat) : callMemAftM oneMid bx H' ns m k =
    if m = some k then (H' 0).map (Rows.tr (usfM oneMid ns m)) else if k ∈ ns then (H' (k + NB)).map (Rows.tr (usfM oneMid ns m)) else if k = 1000 then (H' k).map (Rows.tr (usfM oneMid ns m)) else (bx k).map (Rows.tr (aftM oneMid ns m)) := by
  unfold callMemAftM; simp only [midM_oneMid]
attribute [go_sem] midM_oneMid callMemM_oneMid callMemAftM_oneMid
theorem puts_nil (s : DS) : s.puts [] = s := rfl
theorem puts_cons (s : DS) (u : Nat) (d : D) (l : List (Nat × D)) : s.puts ((u, d) :: l) = (s.put (some u) d).puts l := rfl
theorem round_puts (ms : Nat → Bool) (s : DS) (ns ps : List Nat) (ds : List D) : s.round ms ns ps ds = (s.round0 ms ns).puts (ps.zip (ds.map (D.tr noName))) := rfl
attribute [go_sem] midM_noMid callMemM_noMid callMemAftM_noMid nb_ne nb_ne' nb_le nb_nle nb_sub nb_inj nb_zero roundQ_normal roundQ_ret roundQ_exit round_sl round_bx round_puts puts_nil puts_cons Nat.add_eq_zero_iff List.mem_cons

theorem dw_rf {P : Program} {s : DS} {Q : Exit → DS → Prop} {g : Operand} {ps : List Tmp} {assign body : Code} {gf : FuncId} {caps : List T} {xs : List (List D)} {σ : Type} (N : Nat) (ms : Nat → Bool) (ns : List Nat) (S : Nat → σ → DS) (Inv : Nat → σ → Prop) (st0 : σ) (hi0 : Inv 0 st0) (hsn : s.n = N) (hpl : s.pl = true)
    (hd : (decide (N ≤ 1000) && (ps.all fun p => decide (p < N)) && ns.all fun k => decide (k < 1000)) = true) (hg : (s.ev g).asFn = some (gf, caps)) (hseq : SeqD P gf (caps.map fun t => .one (.c t.cl)) xs) (h0 : s.Sub (S 0 st0)) (hn : ∀ k st, (S k st).n = N) (hxs : ∀ ds ∈ xs, ds.length = ps.length)
    (hround : ∀ k ds st, xs[k]? = some ds → Inv k st → DW P assign ((S k st).round ms ns ps ds) (thenD (fun s1 => DW P body s1 (roundQ ms ns (S k st) (fun s' => ∃ st', Inv (k + 1) st' ∧ s'.Sub (S (k + 1) st')) Q)) (fun _ _ => False)))
    (hdone : ∀ st, Inv xs.length st → Q .normal (S xs.length st)) : DW P (.rangeFunc g ps.toArray assign body) s Q := by
  simp only [Bool.and_eq_true, decide_eq_true_eq, List.all_eq_true] at hd
  subst hsn
  exact dw_rangeFunc ms ns S Inv st0 hi0 hpl hg hseq h0 hn hd.1.1 (by simpa using hd.1.2) (by simpa using hxs) ⟨fun n hn h => by have := hd.2 n hn; have := h.1; omega, fun x h => by cases h⟩ (by simpa using hround) hdone

theorem dw_rfS {P : Program} {s : DS} {Q : Exit → DS → Prop} {g : Operand} {ps : List Tmp} {assign body : Code} {gf : FuncId} {caps : List T} {xs : List (List D)} {σ : Type} (N : Nat) (ms : Nat → Bool) (ns : List Nat) (S : Nat → σ → DS) (Inv : Nat → σ → Prop) (st0 : σ) (hi0 : Inv 0 st0) (hsn : s.n = N) (hpl : s.pl = true)
    (hd : (decide (N ≤ 1000) && (ps.all fun p => decide (p < N)) && ns.all fun k => decide (k < 1000)) = true) (hg : (s.ev g).asFn = some (gf, caps)) (hseq : SeqD P gf (caps.map fun t => .one (.c t.cl)) xs) (h0 : s.Sub (S 0 st0)) (hn : ∀ k st, (S k st).n = N) (hxs : ∀ ds ∈ xs, ds.length = ps.length)
    (hround : ∀ k ds st, xs[k]? = some ds → Inv k st → DW P assign ((S k st).round ms ns ps ds) (thenD (fun s1 => DW P body s1 (fun e t => ∃ t2, t.Sub t2 ∧ roundQ ms ns (S k st) (fun s' => ∃ st', Inv (k + 1) st' ∧ s'.Sub (S (k + 1) st')) Q e t2)) (fun _ _ => False)))
    (hdone : ∀ st, Inv xs.length st → Q .normal (S xs.length st)) : DW P (.rangeFunc g ps.toArray assign body) s Q := by
  refine dw_rf N ms ns S Inv st0 hi0 hsn hpl hd hg hseq h0 hn hxs (fun k ds st h1 h2 => (hround k ds st h1 h2).mono fun e t ht => ?_) hdone
  cases e with
  | normal => exact dw_post ht
  | _ => exact ht

theorem fnTT_nil (f : FuncId) : fnTT f [] = .c (.fn f []) := rfl
attribute [go_sem] frz_sl frz_bx D.frz D.frzAll T.frz T.frzAll frzBx fnTT
attribute [go_sem] Option.pure_def Option.bind_eq_bind
attribute [go_sem] List.zip_cons_cons List.zip_nil_left
end
end Go.Dl

/- The logic of data: the library's sort of numbers, in memory handed over. -/
namespace Go.Dl
open Go.RowKit Go.Sort
noncomputable section

def iRows (xs : List Int) : Rows := xs.map fun x => [T.c (.lit (.int .i64 x))]

theorem iRows_get {xs : List Int} {i : Nat} {x : Int} (h : xs[i]? = some x) : (iRows xs)[i]? = some [T.c (.lit (.int .i64 x))] := by simp [iRows, h]

theorem WI.rel {X : Origin} {w : World} {E : Env} {H : Mem} (h : WI X w E H) (hm : X.mrk ≤ X.w.heap.size) (hB : NB ≤ X.B) : RelE X { n := 0, sl := fun _ => .any, bx := H, pl := false } E { tmps := #[], defers := [] } w :=
  ⟨h, fun _ => .any _, rfl, DefOK.nil _ _ hm, ⟨Nat.zero_le _, hB⟩, fun h => by cases h⟩

theorem sort_E {P : Program} {f : FuncId} (hp : Program.plainF P f = true)
    (hs : ∀ (blk off cap : Nat) (zs : List Int) (w : World), Holds (Value.int .i64) w blk off zs.toArray → blk < w.heap.size → zs.length < 4611686018427387904 →
      Calls P f #[.slice (some ⟨blk, off, none⟩) zs.length cap] w fun e w' => e = .returned (.tuple #[]) ∧ ∃ n os, w' = grow (putRow (Value.int .i64) (Sort.ahead w n) blk off (zs.mergeSort fun x y => decide (x ≤ y)).toArray) os)
    (hnone : ∀ (p : Option Addr) (cap : Nat) (w : World), Calls P f #[.slice p 0 cap] w fun e w' => e = .returned (.tuple #[]) ∧ w' = w)
    (q cap : Nat) (H : Mem) (xs : List Int) (js : Rows) (hq : H q = some (iRows xs ++ js)) (hjs : RowsSz 1 js) (hl : xs.length < 4611686018427387904) :
    ECalls P f [.one (.ba q 1 0 xs.length cap)] H (fun r H' => r = .tup [] ∧ H' = fun k => if k = q then some (iRows (xs.mergeSort fun x y => decide (x ≤ y)) ++ js) else H k) := by
  refine ⟨hp, fun w E F vs hwi hsz hv => ?_⟩
  obtain ⟨v, rfl⟩ : ∃ v, vs = #[v] := by
    have : vs.size = 1 := hsz
    refine ⟨vs[0], ?_⟩
    apply Array.ext
    · simp [this]
    · intro i h1 h2
      have h2' : i < 1 := h2
      obtain rfl : i = 0 := by omega
      rfl
  have hv0 := hv 0 _ v rfl rfl
  by_cases h0 : xs = []
  · subst h0
    have hvs : ∃ p c, v = .slice p 0 c := by
      cases hv0 with | one t v hv0 => cases hv0 with
        | ba n sz i len cap h hm => exact ⟨_, _, rfl⟩
        | bz n sz i A => exact ⟨_, _, rfl⟩
    obtain ⟨p, c, rfl⟩ := hvs
    refine (hnone p c w).mono ?_
    rintro e w' ⟨rfl, rfl⟩
    refine ⟨_, E, .tup [], _, rfl, ⟨rfl, rfl⟩, ?_, .tup [] #[] rfl (fun j d v h1 _ => by simp at h1)⟩
    have : (fun k => if k = q then some (iRows ([].mergeSort fun x y => decide (x ≤ y)) ++ js) else H k) = H := by
      funext k; split
      · rename_i hk; subst hk; simpa using hq.symm
      · rfl
    rw [this]; exact hwi
  · have hvs : ∃ c, v = .slice (some ⟨E.ρ q, 0, none⟩) xs.length c := by
      have hpos : 0 < xs.length := List.length_pos_iff.2 h0
      generalize hle : xs.length = len at hv0 hpos
      cases hv0 with | one t v hv0 => cases hv0 with
        | ba n sz i len cap h hm => exact ⟨cap, by simp⟩
        | bz n sz i A => omega
    obtain ⟨c, rfl⟩ := hvs
    have hne : iRows xs ++ js ≠ [] := by simp [iRows, h0]
    obtain ⟨g1, g2, g3⟩ := hwi.boxes q _ hq hne
    obtain ⟨arr, e, k1, k2⟩ := g2.rowsIs
    obtain ⟨sz, k3⟩ := k2.lst
    have hsz1 : sz = 1 := by
      have hm : ∃ r ∈ iRows xs, r.length = 1 := by
        cases xs with
        | nil => exact absurd rfl h0
        | cons x xs => exact ⟨_, List.mem_cons_self, rfl⟩
      obtain ⟨r, hr, hr1⟩ := hm
      rw [← k3.row r (List.mem_append_left _ hr)]; exact hr1
    subst hsz1
    have hlen : arr.size = xs.length + js.length := by
      have := k3.len
      simp [iRows] at this; exact this
    have harr : ∀ j x, xs[j]? = some x → arr[j]? = some (Value.int .i64 x) := fun j x hj => by
      have hjl : j < xs.length := (List.getElem?_eq_some_iff.1 hj).1
      have hja : j < arr.size := by omega
      have := k3.is j 0 [T.c (.lit (.int .i64 x))] _ arr[j] (by rw [List.getElem?_append_left (by simpa [iRows] using hjl)]; exact iRows_get hj) rfl (by simp [hja])
      rw [Array.getElem?_eq_getElem hja]
      have hd : VD w E (.one (.c (.lit (.int .i64 x)))) arr[j] := .one _ _ this
      rw [hd.lit]
    have hblt : E.ρ q < w.heap.size := (Array.getElem?_eq_some_iff.1 k1).1
    have hH : Holds (Value.int .i64) w (E.ρ q) 0 xs.toArray := fun j hj => by
      have hj' : j < xs.length := by simpa using hj
      refine ⟨?_, by simp [World.frozen?, k1]⟩
      have := harr j xs[j] (List.getElem?_eq_getElem hj')
      simp [World.cell?, k1, this, hj']
    refine (hs (E.ρ q) 0 c xs w hH hblt hl).mono ?_
    rintro en w' ⟨rfl, n, os, rfl⟩
    obtain ⟨ts, hts⟩ : ∃ ts, ts = xs.mergeSort fun x y => decide (x ≤ y) := ⟨_, rfl⟩
    have htl : ts.length = xs.length := by rw [hts]; exact List.length_mergeSort _
    rw [← hts]
    obtain ⟨arr', harr'⟩ : ∃ arr', arr' = putCells (Value.int .i64) 0 ts.toArray arr := ⟨_, rfl⟩
    have hsz' : arr'.size = arr.size := by rw [harr']; simp [putCells]
    have hrow : RowSet w (putRow (Value.int .i64) (Sort.ahead w n) (E.ρ q) 0 ts.toArray) (E.ρ q) e arr arr' := by
      refine ⟨k1, ?_, hsz', by simp [putRow, mapBlock, Sort.ahead], fun k hk => ?_, rfl, rfl, rfl⟩
      · simp [putRow, mapBlock, Sort.ahead, Array.getElem?_modify, k1, onCells, harr']
      · simp [putRow, mapBlock, Sort.ahead, Array.getElem?_modify, Ne.symm hk]
    have hv' : RowsIs w E arr' (iRows ts ++ js) := by
      refine ⟨1, fun r hr => ?_, by rw [hsz', hlen]; simp [iRows, htl], fun i j r t v h1 h2 h3 => ?_⟩
      · rcases List.mem_append.1 hr with hr | hr
        · obtain ⟨x, _, rfl⟩ := List.mem_map.1 hr; rfl
        · exact hjs r hr
      · by_cases hi : i < ts.length
        · rw [List.getElem?_append_left (by simpa [iRows] using hi), iRows_get (List.getElem?_eq_getElem hi)] at h1
          injection h1 with h1; subst h1
          cases j with
          | succ j => simp at h2
          | zero =>
            simp at h2; subst h2
            have hia : i < arr.size := by omega
            simp [harr', putCells, hi, hia] at h3
            subst h3
            exact .c _ _ (.lit _ rfl)
        · have h1' := h1
          rw [List.getElem?_append_right (by simp [iRows]; omega)] at h1
          have hr1 : r.length = 1 := hjs r (List.mem_of_getElem? h1)
          have hj0 : j = 0 := by have := (List.getElem?_eq_some_iff.1 h2).1; omega
          subst hj0
          refine k3.is i 0 r t v ?_ h2 ?_
          · rw [List.getElem?_append_right (by simp [iRows]; omega)]
            simpa [iRows, htl] using h1
          · simp [harr', putCells, hi] at h3 ⊢
            exact h3
    have hrel := (hwi.rel (Nat.le_refl _) (Nat.le_refl _)).setBx hq hne hrow hv'
    have hush : Hush w.heap.size (putRow (Value.int .i64) (Sort.ahead w n) (E.ρ q) 0 ts.toArray) (grow (putRow (Value.int .i64) (Sort.ahead w n) (E.ρ q) 0 ts.toArray) os) := by
      refine ⟨rfl, rfl, rfl, by simp [grow], fun b hb => ?_, fun b a' e' m hb => ?_⟩
      · exact heap_grow_old _ _ (by rw [hrow.heap]; exact hb)
      · exact heap_grow_old _ _ (Array.getElem?_eq_some_iff.1 hb).1
    have hfin := hrel.hush (a' := { tmps := #[], defers := [] }) hush rfl (DefOK.nil _ _ (Nat.le_refl _))
    exact ⟨_, E, .tup [], _, rfl, ⟨rfl, rfl⟩, hfin.wi, .tup [] #[] rfl (fun j d v h1 _ => by simp at h1)⟩
end
end Go.Dl

/- The logic of data: rows of plain cells. -/
namespace Go.Dl
open Go.RowKit
noncomputable section

def cr (xs : List (List C)) : Rows := xs.map (List.map T.c)
theorem cr_tr (r : Ren) (xs : List (List C)) : Rows.tr r (cr xs) = cr xs := Rows.tr_c r xs
theorem cr_len (xs : List (List C)) : (cr xs).length = xs.length := by simp [cr]
theorem cr_take (xs : List (List C)) (k : Nat) : (cr xs).take k = cr (xs.take k) := by simp [cr]
theorem cr_drop (xs : List (List C)) (k : Nat) : (cr xs).drop k = cr (xs.drop k) := by simp [cr]
theorem cr_append (xs ys : List (List C)) : cr (xs ++ ys) = cr xs ++ cr ys := by simp [cr]
theorem cr_cons (x : List C) (xs : List (List C)) : cr (x :: xs) = x.map T.c :: cr xs := rfl
theorem cr_nil : cr [] = [] := rfl
theorem cr_sz {sz : Nat} {xs : List (List C)} (hz : ∀ r ∈ xs, r.length = sz) : RowsSz sz (cr xs) := fun r hr => by
  obtain ⟨x, hx, rfl⟩ := List.mem_map.1 hr
  simpa using hz x hx
theorem cr_at {xs : List (List C)} {js : Rows} {i : Nat} {x : List C} (h : xs[i]? = some x) : (cr xs ++ js)[i]? = some (x.map T.c) := by
  rw [List.getElem?_append_left (by rw [cr_len]; exact (List.getElem?_eq_some_iff.1 h).1), cr, List.getElem?_map, h]; rfl
theorem cr_set {xs : List (List C)} {js : Rows} {i : Nat} {x : List C} (h : i < xs.length) : (cr xs ++ js).set i (x.map T.c) = cr (xs.set i x) ++ js := by
  rw [List.set_append_left _ _ (by rw [cr_len]; exact h), cr, cr, List.map_set]
attribute [go_sem] cr_tr

theorem srcSl {bx : Mem} {sz : Nat} {d : D} {ys : List (List C)} (hd : d = .one (.c (.sl sz ys))) : Src bx sz d (cr ys) := by
  subst hd; exact .sl ys
theorem srcBa {bx : Mem} {sz n i len cap : Nat} {d : D} {rows ys : Rows} (hd : d = .one (.ba n sz i len cap)) (hb : bx n = some rows) (hl : i + len ≤ rows.length) (hz : ∀ r ∈ rows, r.length = sz) (hys : ys = (rows.drop i).take len) : Src bx sz d ys := by
  subst hd; subst hys; exact .ba n i len cap rows hb hl hz
theorem srcOne {bx : Mem} {sz n : Nat} {d : D} {v : List T} (hd : d = .one (.ba n sz 0 1 1)) (hb : bx n = some [v]) (hl : v.length = sz) : Src bx sz d [v] :=
  srcBa hd hb (by simp) (by simpa using hl) (by simp)

def listMem (xs : List (List C)) (j sz q : Nat) (v : List C) : Mem := fun k => if k = 1000 then some (cr xs ++ anyRows j sz) else if k = q then some [v.map T.c] else none
theorem listMem_l (xs : List (List C)) (j sz q : Nat) (v : List C) : listMem xs j sz q v 1000 = some (cr xs ++ anyRows j sz) := if_pos rfl
theorem listMem_q (xs : List (List C)) (j sz a : Nat) (v : List C) : listMem xs j sz (a + NB) v (a + NB) = some [v.map T.c] := by
  have := NB_big
  unfold listMem; rw [if_neg (by omega), if_pos rfl]
end
end Go.Dl

/- The logic of data: a region whose order is drawn, where two operations may come up: both ways are gone. -/
namespace Go.Dl
open Go.RowKit
noncomputable section

inductive PT where
  | leaf
  | run (l : List Nat) (t : PT)
  | two (i : Nat) (t : PT) (j : Nat) (u : PT)

def runOk (ops : List Oper) : List Nat → Array Bool → Bool
  | [], _ => true
  | i :: l, listed => (Region.ready .any ops.toArray listed == [i]) && runOk ops l (listed.setIfInBounds i true)

def PT.len : PT → Nat
  | .leaf => 0
  | .run l t => l.length + t.len
  | .two _ t _ _ => 1 + t.len

def PT.ok (ops : List Oper) : PT → Array Bool → Bool
  | .leaf, listed => (Region.ready .any ops.toArray listed).isEmpty
  | .run l t, listed => runOk ops l listed && t.ok ops (afterA l listed)
  | .two i t j u, listed => (Region.ready .any ops.toArray listed == [i, j]) && (ops[i]?).isSome && (ops[j]?).isSome && (t.len == u.len) && t.ok ops (listed.setIfInBounds i true) && u.ok ops (listed.setIfInBounds j true)

def pickM (ops : List Oper) (m : Mode) : List Nat → List (Mode × Oper)
  | [] => []
  | i :: l => match ops[i]? with
    | some o => (m, o) :: pickM ops m l
    | none => []

def pickH (ops : List Oper) (hd : List Nat) : List Nat → List (Mode × Oper)
  | [] => []
  | i :: l => match ops[i]? with
    | some o => (if i ∈ hd then .hand else .step, o) :: pickH ops hd l
    | none => []

def PT.wk (P : Program) (ops : List Oper) (hd : List Nat) (ds : List (Option Nat)) : PT → DS → (DS → Prop) → Prop
  | .leaf, s, K => K s
  | .run l t, s, K => Go.Dl.wk P ds (pickH ops hd l) s fun s' => t.wk P ops hd ds s' K
  | .two i t j u, s, K => (Go.Dl.wk P ds (pickH ops hd [i]) s fun s' => t.wk P ops hd ds s' K) ∧ Go.Dl.wk P ds (pickH ops hd [j]) s fun s' => u.wk P ops hd ds s' K

section
variable {P : Program}

theorem any_each {ops : List Oper} {N : Nat} (hb : dstB ops N = true) {K : DS → Prop} {fuel : Nat} {listed : Array Bool} {s : DS} {l : List Nat} (hr : Region.ready .any ops.toArray listed = l) (hne : l ≠ [])
    (h : ∀ i ∈ l, ∃ o, ops[i]? = some o ∧ guardS P ops o s (AnyOk P ops N K fuel (listed.setIfInBounds i true))) : AnyOk P ops N K (fuel + 1) listed s := by
  intro hn X a w hrel
  refine wpAny_all hr hne fun j hj => ?_
  obtain ⟨o, ho, h⟩ := h j hj
  have hd := dst_of hb ho
  unfold wpOp
  have ho' : ops.toArray[j]? = some o := by simpa using ho
  simp only [ho']
  unfold guardS at h
  split at h
  · rename_i t ht
    rw [wantD_ok ht hrel]
    split at h
    · rename_i h3
      rw [if_pos h3]
      refine .inl (Oper.wp_mono ?_ (h (fun d hd' => by rw [hn]; exact hd d hd') X a w hrel _))
      rintro a' w' ⟨s', ⟨hn', hs'⟩, hr'⟩
      exact hs' (hn'.trans hn) X a' w' hr'
    · rename_i h3
      rw [if_neg h3]
      exact h (by rw [put_n]; exact hn) X _ w (putAny hrel (fun d hd' => by rw [hn]; exact hd d hd'))
  · exact h.elim

theorem wk_guardS {ops : List Oper} {o : Oper} {l : List (Mode × Oper)} {s : DS} {K : DS → Prop} {p : Prop} [Decidable p] (h : wk P (ops.map (·.dst)) ((if p then .hand else .step, o) :: l) s K) : guardS P ops o s fun s' => wk P (ops.map (·.dst)) l s' K := by
  have h := wk_cons h
  unfold GIs at h
  simp only [guardS]
  split at h
  · rename_i hw
    simp only [hw, if_true]
    split at h
    · cases h with
      | hand h => exact h
    · cases h with
      | step h => exact h
  · rename_i hw
    simp only [hw, Bool.false_eq_true, if_false]
    exact h
  · exact h.elim

theorem guardS_mono {ops : List Oper} {o : Oper} {s : DS} {K K' : DS → Prop} (hk : ∀ s, K s → K' s) (h : guardS P ops o s K) : guardS P ops o s K' := by
  revert h
  simp only [guardS]
  split
  · split
    · exact fun h => h.mono fun s' _ => hk s'
    · exact hk _
  · exact id

theorem run_ok {ops : List Oper} {hd : List Nat} {N : Nat} (hb : dstB ops N = true) {K K1 : DS → Prop} {fuel : Nat} : ∀ (l : List Nat) (listed : Array Bool) (s : DS), runOk ops l listed = true →
    wk P (ops.map (·.dst)) (pickH ops hd l) s K1 → (∀ s, K1 s → AnyOk P ops N K fuel (afterA l listed) s) → (∀ i ∈ l, (ops[i]?).isSome = true) → AnyOk P ops N K (l.length + fuel) listed s
  | [], listed, s, _, h, hk, _ => by
    have := hk s (by simpa [pickH, wk] using h)
    simpa [afterA] using this
  | i :: l, listed, s, hr, h, hk, hs => by
    simp only [runOk, Bool.and_eq_true, beq_iff_eq] at hr
    have hi := hs i (by simp)
    cases ho : ops[i]? with
    | none => rw [ho] at hi; cases hi
    | some o =>
      simp only [pickH, ho] at h
      have hfu : (i :: l).length + fuel = (l.length + fuel) + 1 := by simp; omega
      rw [hfu]
      exact any_only hb hr.1 ho (guardS_mono (fun s' h' => run_ok hb l _ s' hr.2 h' hk fun j hj => hs j (by simp [hj])) (wk_guardS h))

theorem ready_some {ops : List Oper} {listed : Array Bool} {i : Nat} (h : i ∈ Region.ready .any ops.toArray listed) : (ops[i]?).isSome = true := by
  have h1 : i < ops.toArray.size := by
    unfold Region.ready at h
    have := (List.mem_filter.1 h).1
    simpa using this
  simp at h1
  simp [h1]

theorem run_some {ops : List Oper} : ∀ (l : List Nat) (listed : Array Bool), runOk ops l listed = true → ∀ i ∈ l, (ops[i]?).isSome = true
  | [], _, _ => by simp
  | i :: l, listed, hr => by
    simp only [runOk, Bool.and_eq_true, beq_iff_eq] at hr
    intro j hj
    rcases List.mem_cons.1 hj with rfl | hj
    · exact ready_some (listed := listed) (by rw [hr.1]; simp)
    · exact run_some l _ hr.2 j hj

theorem pt_ok {ops : List Oper} {hd : List Nat} {N : Nat} (hb : dstB ops N = true) {K : DS → Prop} : ∀ (t : PT) (listed : Array Bool) (s : DS), t.ok ops listed = true → t.wk P ops hd (ops.map (·.dst)) s K → AnyOk P ops N K t.len listed s
  | .leaf, listed, s, hc, h => any_done (by simpa [PT.ok] using hc) h
  | .run l t, listed, s, hc, h => by
    simp only [PT.ok, Bool.and_eq_true] at hc
    exact run_ok hb l listed s hc.1 h (fun s' h' => pt_ok hb t _ s' hc.2 h') (run_some l listed hc.1)
  | .two i t j u, listed, s, hc, h => by
    simp only [PT.ok, Bool.and_eq_true, beq_iff_eq] at hc
    obtain ⟨⟨⟨⟨⟨h1, h2⟩, h3⟩, h4⟩, h5⟩, h6⟩ := hc
    have hl : (PT.two i t j u).len = t.len + 1 := by simp [PT.len]; omega
    rw [hl]
    refine any_each hb h1 (by simp) fun k hk => ?_
    have hk' : k = i ∨ k = j := by simpa using hk
    rcases hk' with rfl | rfl
    · cases ho : ops[k]? with
      | none => rw [ho] at h2; cases h2
      | some o =>
        have h7 := h.1
        simp only [pickH, ho] at h7
        exact ⟨o, rfl, guardS_mono (fun s' h' => pt_ok hb t _ s' h5 h') (wk_guardS h7)⟩
    · cases ho : ops[k]? with
      | none => rw [ho] at h3; cases h3
      | some o =>
        have h7 := h.2
        simp only [pickH, ho] at h7
        refine ⟨o, rfl, guardS_mono (fun s' h' => ?_) (wk_guardS h7)⟩
        rw [h4]
        exact pt_ok hb u _ s' h6 h'

def checkPT (ops : List Oper) (N : Nat) (pa : List Nat) (t : PT) : Bool :=
  dstB ops N && (pa.isEmpty || Region.noSelect ops.toArray) && checkA ops pa (Array.replicate ops.length false) && t.ok ops (afterA pa (Array.replicate ops.length false)) && (t.len + pa.length == ops.length) && (pa.all fun i => (ops[i]?).isSome)

theorem picks_pickM {ops : List Oper} : ∀ (pa : List Nat), (pa.all fun i => (ops[i]?).isSome) = true → Picks ops (pa.map fun i => (i, Mode.blind)) (pickM ops .blind pa)
  | [], _ => .nil
  | i :: l, h => by
    simp only [List.all_cons, Bool.and_eq_true] at h
    cases ho : ops[i]? with
    | none => rw [ho] at h; cases h.1
    | some o => simp only [pickM, ho]; exact .cons ho (picks_pickM l h.2)

theorem dw_tree {id : Nat} {l : List Oper} {s : DS} {Q : Exit → DS → Prop} {N : Nat} (pa : List Nat) (hd : List Nat) (t : PT) (hm : P.follows .mixedOrders = true) (hn : s.n = N) (hc : checkPT l N pa t = true)
    (h : wk P (l.map (·.dst)) (pickM l .blind pa) s fun s' => t.wk P l hd (l.map (·.dst)) s' (Q .normal)) : DW P (.region id l.toArray true) s Q := by
  simp only [checkPT, Bool.and_eq_true, Bool.or_eq_true, beq_iff_eq] at hc
  obtain ⟨⟨⟨⟨⟨h1, h2⟩, h3⟩, h4⟩, h5⟩, h6⟩ := hc
  subst hn
  refine dw_any h1 hm ?_
  have hA : partA (pa.map fun i => (i, Mode.blind)) = pa := by
    clear h h2 h3 h4 h5 h6
    induction pa with
    | nil => rfl
    | cons i l ih => simp [partA, Mode.isBlind, ih]
  have hB : partB (pa.map fun i => (i, Mode.blind)) = [] := by
    clear h h2 h3 h4 h5 h6 hA
    induction pa with
    | nil => rfl
    | cons i l ih => simp [partB, Mode.isBlind, ih]
  have hw := picks_walk (picks_pickM pa h6) (by rw [hB]; simp) h
  rw [hA, hB] at hw
  suffices hs : AnyOk P l s.n (Q .normal) (t.len + pa.length) (Array.replicate l.length false) s by rw [h5] at hs; exact hs
  have mono : ∀ {K K' : DS → Prop} (hk : ∀ s, K s → K' s) (pa : List Nat) (s : DS), walkA P l pa s K → walkA P l pa s K' := by
    intro K K' hk pa
    induction pa with
    | nil => exact fun s h => hk s h
    | cons i pa ih =>
      intro s h
      simp only [walkA] at h ⊢
      cases ho : l[i]? with
      | none => rw [ho] at h; exact h.elim
      | some o =>
        simp only [ho] at h ⊢
        revert h
        unfold BL
        split
        · rintro ⟨d, e1, e2⟩; exact ⟨d, e1, ih _ e2⟩
        · exact fun h => ih _ h
        · exact fun h => h
  rcases h2 with h2 | h2
  · have hpa : pa = [] := by simpa using h2
    subst hpa
    exact pt_ok h1 t _ s h4 hw
  · exact walkA_ok h1 h2 pa _ s h3 (mono (fun s' h' => pt_ok h1 t _ s' h4 h') pa s hw)

theorem pickM_nil (ops : List Oper) (m : Mode) : pickM ops m [] = [] := rfl
theorem pickM_cons (ops : List Oper) (m : Mode) (i : Nat) (l : List Nat) : pickM ops m (i :: l) = match ops[i]? with | some o => (m, o) :: pickM ops m l | none => [] := rfl
theorem pickH_nil (ops : List Oper) (hd : List Nat) : pickH ops hd [] = [] := rfl
theorem pickH_cons (ops : List Oper) (hd : List Nat) (i : Nat) (l : List Nat) : pickH ops hd (i :: l) = match ops[i]? with | some o => (if i ∈ hd then .hand else .step, o) :: pickH ops hd l | none => [] := rfl
theorem ptwk_leaf (ops : List Oper) (hd : List Nat) (ds : List (Option Nat)) (s : DS) (K : DS → Prop) : PT.leaf.wk P ops hd ds s K = K s := rfl
theorem ptwk_run (ops : List Oper) (hd : List Nat) (ds : List (Option Nat)) (l : List Nat) (t : PT) (s : DS) (K : DS → Prop) : (PT.run l t).wk P ops hd ds s K = Go.Dl.wk P ds (pickH ops hd l) s fun s' => t.wk P ops hd ds s' K := rfl
theorem ptwk_two (ops : List Oper) (hd : List Nat) (ds : List (Option Nat)) (i j : Nat) (t u : PT) (s : DS) (K : DS → Prop) : (PT.two i t j u).wk P ops hd ds s K = ((Go.Dl.wk P ds (pickH ops hd [i]) s fun s' => t.wk P ops hd ds s' K) ∧ Go.Dl.wk P ds (pickH ops hd [j]) s fun s' => u.wk P ops hd ds s' K) := rfl
attribute [go_sem] pickM_nil pickM_cons pickH_nil pickH_cons ptwk_leaf ptwk_run ptwk_two
end
end
end Go.Dl

/- The logic of data: behind a loop. -/
namespace Go.Dl
open Go.RowKit
noncomputable section
theorem dw_after {P : Program} {α : Type} {id : Nat} {c rest : Code} {s : DS} {Q Q2 : Exit → DS → Prop} (S : α → DS) (F : α → Prop) (h1 : DW P c s (fun e s' => e = .exit id ∧ ∃ y, F y ∧ s'.Sub (S y))) (h2 : ∀ y, F y → DW P rest (S y) Q) :
    DW P c s (inBlockD id (thenD (fun s' => DW P rest s' Q) Q2)) :=
  h1.mono fun e s' ⟨he, y, hF, hs⟩ => by
    subst he
    simp only [inBlockD, if_true, thenD]
    exact dw_weaken hs (h2 y hF)
theorem dw_afterN {P : Program} {α : Type} {c rest : Code} {s : DS} {Q Q2 : Exit → DS → Prop} (S : α → DS) (F : α → Prop) (h1 : DW P c s (fun e s' => e = .normal ∧ ∃ y, F y ∧ s'.Sub (S y))) (h2 : ∀ y, F y → DW P rest (S y) Q) :
    DW P c s (thenD (fun s' => DW P rest s' Q) Q2) :=
  h1.mono fun e s' ⟨he, y, hF, hs⟩ => by
    subst he
    simp only [thenD]
    exact dw_weaken hs (h2 y hF)
theorem nb_1000 : (1000 < NB) = True := eq_true (by have := NB_big; omega)
attribute [go_sem] nb_1000

theorem listMem_call {xs : List (List C)} {j sz a : Nat} {v : List C} {bx : Mem} (ha : a < 1000) (h1 : bx 1000 = some (cr xs ++ anyRows j sz)) (h2 : bx a = some [v.map T.c]) : ∀ k r, listMem xs j sz (a + NB) v k = some r → callMem bx [a] k = some r := fun k r h => by
  have hNB := NB_big
  unfold listMem at h
  unfold callMem
  split at h
  · rename_i hk
    subst hk
    rw [if_neg (by intro h; omega), if_pos ⟨Nat.le_refl _, by omega⟩, h1, ← h]
    simp only [Option.map_some, Rows.tr_append, cr_tr, anyRows_tr]
  · split at h
    · rename_i hk
      subst hk
      rw [if_pos ⟨Nat.le_add_left _ _, by simp⟩, Nat.add_sub_cancel, h2, ← h]
      simp only [Option.map_some, Rows.tr_cons, Rows.tr_nil, tr_c]
    · cases h
end
end Go.Dl

/- The logic of data: a made slice of zeros. -/
namespace Go.Dl
open Go.RowKit
noncomputable section
section
variable {P : Program}

theorem Step.makeSlice {o : Oper} {s : DS} {K : DS → Prop} {m n : Nat} {x y : Operand} {t e : TypeId} {z : List T} {inf : TypeInfo} {kx ky : IntKind} (ho : o.op = .makeSlice t x y) (hm : o.dst = some m) (hu : P.underlying t = some (.slice e)) (hi : P.info? e = some inf) (hz : Program.zeroT P e = some z)
    (hpos : 0 < z.length) (hsz : inf.size = z.length) (hx : s.ev x = .one (.c (.lit (.int kx (n : Int))))) (hy : s.ev y = .one (.c (.lit (.int ky (n : Int))))) (hn : n * z.length ≤ 16777216) (hb : inf.bytes * n ≤ 281474976710656) (h63 : n ≤ maxLen)
    (h : K ((s.newMem m (List.replicate n z)).put (some m) (.one (.ba m z.length 0 n n)))) : Step P o s K := by
  rintro hd X a w ⟨E, hE⟩ Q
  have hvx := hE.ev x
  have hvy := hE.ev y
  rw [hx] at hvx
  rw [hy] at hvy
  obtain ⟨inf', z0, h1, h2, h3, h4⟩ := zeroT_ok hz
  rw [hi] at h1; injection h1 with h1; subst h1
  have hb' : (inf.bytes : Int) * (n : Int) ≤ 281474976710656 := by
    have : ((inf.bytes * n : Nat) : Int) ≤ 281474976710656 := by omega
    rwa [Int.natCast_mul] at this
  have h63' : (n : Int) ≤ 9223372036854775807 := by have := h63; simp [maxLen] at this; omega
  have hrun := run_makeSlice (P := P) w t e inf z0 hu hi h2 kx ky (n : Int) (n : Int) (Int.natCast_nonneg n) (Int.le_refl _) (by rw [hsz]; simpa using hn) hb' h63'
  simp only [Int.toNat_natCast, hsz] at hrun
  have hz0 : 0 < z0.cells.size := by omega
  have hrows : RowsIs w E (madeCells z0.cells (n * z.length)) (List.replicate n z) := by
    refine ⟨z.length, fun r hr => by rw [List.eq_of_mem_replicate hr], by simp [size_madeCells], fun i j r t' v k1 k2 k3 => ?_⟩
    have hin : i < n := by have := (List.getElem?_eq_some_iff.1 k1).1; simpa using this
    have hr : r = z := List.eq_of_mem_replicate (List.mem_of_getElem? k1)
    subst hr
    have hj : j < r.length := (List.getElem?_eq_some_iff.1 k2).1
    have hlt := idx_lt hin hj (sz := r.length)
    have hmod : (i * r.length + j) % z0.cells.size = j := by rw [h3, Nat.mul_comm, Nat.mul_add_mod, Nat.mod_eq_of_lt hj]
    have hv : v = z0.cells[j]'(by omega) := by
      simp only [madeCells, Array.getElem?_map, Array.getElem?_range, hlt, if_true, Option.map_some, hmod] at k3
      injection k3 with k3
      rw [← k3, getElem!_pos z0.cells j (by omega)]
    subst hv
    exact h4 w E j t' _ k2 (Array.getElem?_eq_getElem (by omega))
  have h5 := hE.newMem m (hd m hm) (madeCells z0.cells (n * z.length)) e _ hrows
  refine wp_run (v := .slice (some ⟨w.heap.size, 0, none⟩) n n) (w' := w.alloc (.cells (madeCells z0.cells (n * z.length)) e)) ?_ ⟨_, ⟨by rfl, h⟩, ?_⟩
  · simp only [execOp, ho, Sem.run_bind, hvx.lit, hvy.lit, hrun, Result.andThen_ok, Sem.run_pure]
  · rw [hm]
    refine ⟨_, h5.putOnly (fun d hd' => by injection hd' with hd'; subst hd'; exact hd m hm) (.one _ _ ?_)⟩
    have := VT.ba (w := w.alloc (.cells (madeCells z0.cells (n * z.length)) e)) (E := E.setρ m w.heap.size) m z.length 0 n n (Nat.le_refl _) h63
    simpa [Env.setρ] using this
end
theorem nb_lt (a : Nat) : (a + NB < NB) = False := eq_false (by omega)
attribute [go_sem] nb_lt
end
end Go.Dl

/- The reading of arguments: what the form reads as data is read by the logic of data, too. -/
namespace Go.Dl
open Go.RowKit Go.ChangeShapes Go.WideShapes Go.ChangeAt

inductive Sh where
  | int (k : IntKind)
  | bool
  | str
  | sl (sz : Nat) (e : Sh)
  | nil
  | cons (f r : Sh)

def Val : Sh → Type
  | .int _ => Int
  | .bool => Bool
  | .str => ByteArray
  | .sl _ e => List (Val e)
  | .nil => Unit
  | .cons f r => Val f × Val r

def Sh.size : Sh → Nat
  | .nil => 0
  | .cons f r => f.size + r.size
  | _ => 1

def Sh.enc : (s : Sh) → Val s → List C
  | .int k, n => [.lit (.int k n)]
  | .bool, b => [.lit (.bool b)]
  | .str, s => [.lit (.string s)]
  | .sl sz e, l => [.sl sz (List.map (Sh.enc e) l)]
  | .nil, _ => []
  | .cons f r, x => Sh.enc f x.1 ++ Sh.enc r x.2

def Sh.ok : (s : Sh) → Val s → Prop
  | .int k, n => (Lit.int k n).wf = true
  | .bool, _ => True
  | .str, s => s.size ≤ maxLen
  | .sl _ e, l => (show List (Val e) from l).length ≤ maxLen ∧ ∀ x ∈ (show List (Val e) from l), Sh.ok e x
  | .nil, _ => True
  | .cons f r, x => Sh.ok f x.1 ∧ Sh.ok r x.2

theorem Sh.enc_len : (s : Sh) → (x : Val s) → (s.enc x).length = s.size
  | .int k, n => rfl
  | .bool, b => rfl
  | .str, s => rfl
  | .sl sz e, l => rfl
  | .nil, _ => rfl
  | .cons f r, x => by simp only [Sh.enc, List.length_append, Sh.enc_len f, Sh.enc_len r, Sh.size]

def Program.has (P : Program) : Sh → TypeId ⊕ (List Field × Nat) → Bool
  | .int k, .inl t => match P.underlying t with | some (.int k') => decide (k' = k) | _ => false
  | .bool, .inl t => match P.underlying t with | some .bool => true | _ => false
  | .str, .inl t => match P.underlying t with | some .string => true | _ => false
  | .sl sz e, .inl t => match P.underlying t with | some (.slice el) => P.cellsOf el == sz && decide (0 < sz) && e.size == sz && Program.has P e (.inl el) | _ => false
  | .cons f r, .inl t => match P.underlying t with
    | some (.struct fs) => match fs.toList with
      | fd :: rest => P.cellsOf t == f.size + r.size && fd.offset == 0 && P.cellsOf fd.type == f.size && Program.has P f (.inl fd.type) && Program.has P r (.inr (rest, f.size))
      | [] => false
    | _ => false
  | .nil, .inr (fs, _) => fs.isEmpty
  | .cons f r, .inr (fs, o) => match fs with
    | fd :: rest => fd.offset == o && P.cellsOf fd.type == f.size && Program.has P f (.inl fd.type) && Program.has P r (.inr (rest, o + f.size))
    | [] => false
  | _, _ => false

def Kall (w : World) : KSet := fun b o => (w.cell? ⟨b, o, none⟩).isSome = true

def CellsC (w : World) (cs : List C) (vs : List Value) : Prop := vs.length = cs.length ∧ ∀ (j : Nat) c v, cs[j]? = some c → vs[j]? = some v → VC w (Kall w) c v

theorem CellsC.app {w : World} {a b : List C} {u v : List Value} (h : CellsC w a u) (k : CellsC w b v) : CellsC w (a ++ b) (u ++ v) := by
  refine ⟨by simp [h.1, k.1], fun j c x h1 h2 => ?_⟩
  rw [List.getElem?_append] at h1 h2
  rw [h.1] at h2
  split at h1
  · rename_i hj; rw [if_pos hj] at h2; exact h.2 j c x h1 h2
  · rename_i hj; rw [if_neg hj] at h2; exact k.2 _ c x h1 h2

theorem CellsC.one {w : World} {c : C} {v : Value} (h : VC w (Kall w) c v) : CellsC w [c] [v] :=
  ⟨rfl, fun j c' v' h1 h2 => by
    cases j with
    | zero => simp at h1 h2; subst h1; subst h2; exact h
    | succ j => simp at h1⟩

section
variable {P : Program} {H : Type} {enc : TypeId × Value → H} {w : World} {sp : Nat → Bool} {held : Bool}

theorem cells?_get {base : Nat} {a : Addr} {n : Nat} {vs : List Value} (h : w.cells? base a n = some vs) : vs.length = n ∧ ∀ j, j < n → w.cell? (a.add j) = vs[j]? := by
  unfold World.cells? at h
  split at h
  · have hl : vs.length = n := by
      have := mapM_some_length h
      simpa using this
    refine ⟨hl, fun j hj => ?_⟩
    have := mapM_some_get h j j (by simp [hj])
    simpa using this
  · cases h

theorem trod_C : (s : Sh) → (∀ (t : TypeId), Program.has P s (.inl t) = true → ∀ (fuel : Nat) (vs : List Value) x, DataW.trod enc P w 0 sp held fuel t vs = some x → ∃ a : Val s, s.ok a ∧ CellsC w (s.enc a) vs) ∧
    (∀ (fs : List Field) (o : Nat), Program.has P s (.inr (fs, o)) = true → ∀ (fuel : Nat) (vs : List Value), (∀ f ∈ fs, ∃ y, DataW.trod enc P w 0 sp held fuel f.type ((vs.drop f.offset).take (P.cellsOf f.type)) = some y) → vs.length = o + s.size →
      ∃ a : Val s, s.ok a ∧ CellsC w (s.enc a) (vs.drop o))
  | .int k => by
    refine ⟨fun t ht fuel vs x h => ?_, fun fs o h => by simp [Program.has] at h⟩
    simp only [Program.has] at ht
    split at ht
    · rename_i k' hu
      have hk : k' = k := by simpa using ht
      subst hk
      obtain ⟨n, rfl, _, hw⟩ := DataW.trod_int hu h
      exact ⟨n, hw, CellsC.one (.lit _ rfl)⟩
    · cases ht
  | .bool => by
    refine ⟨fun t ht fuel vs x h => ?_, fun fs o h => by simp [Program.has] at h⟩
    simp only [Program.has] at ht
    split at ht
    · rename_i hu
      obtain ⟨b, rfl, _⟩ := DataW.trod_bool hu h
      exact ⟨b, trivial, CellsC.one (.lit _ rfl)⟩
    · cases ht
  | .str => by
    refine ⟨fun t ht fuel vs x h => ?_, fun fs o h => by simp [Program.has] at h⟩
    simp only [Program.has] at ht
    split at ht
    · rename_i hu
      obtain ⟨s, rfl, _, hs⟩ := DataW.trod_string hu h
      exact ⟨s, hs, CellsC.one (.lit _ rfl)⟩
    · cases ht
  | .sl sz e => by
    refine ⟨fun t ht fuel vs x h => ?_, fun fs o h => by simp [Program.has] at h⟩
    simp only [Program.has] at ht
    split at ht
    · rename_i el hu
      simp only [Bool.and_eq_true, beq_iff_eq, decide_eq_true_eq] at ht
      obtain ⟨⟨⟨hc, hpos⟩, hes⟩, he⟩ := ht
      rcases Go.Deep.open_slice hu h with ⟨rfl, _⟩ | ⟨a, len, cap, m, n, D, Pl, rfl, hb, hl, hm, hmm, _, hx⟩
      · exact ⟨([] : List (Val e)), ⟨by simp, by simp⟩, CellsC.one (.nil sz)⟩
      · have hlm : len ≤ m := by subst hmm; split <;> omega
        have each : ∀ i, i < len → ∃ y : Val e, e.ok y ∧ ∃ cs', w.cells? 0 (a.add (i * sz)) sz = some cs' ∧ CellsC w (e.enc y) cs' := fun i hi => by
          obtain ⟨cs', h1, h2⟩ := hx i (by omega)
          rw [hc] at h1
          obtain ⟨y, hy, hy2⟩ := (trod_C e).1 el he n cs' _ h2
          exact ⟨y, hy, cs', h1, hy2⟩
        have build : ∀ k, k ≤ len → ∃ l : List (Val e), l.length = k ∧ (∀ y ∈ l, e.ok y) ∧ ∀ i y, l[i]? = some y → ∃ cs', w.cells? 0 (a.add (i * sz)) sz = some cs' ∧ CellsC w (e.enc y) cs' := by
          intro k
          induction k with
          | zero => exact fun _ => ⟨[], rfl, by simp, by simp⟩
          | succ k ih =>
            intro hk
            obtain ⟨l, h1, h2, h3⟩ := ih (by omega)
            obtain ⟨y, hy, cs', h4, h5⟩ := each k (by omega)
            refine ⟨l ++ [y], by simp [h1], fun z hz => ?_, fun i z hz => ?_⟩
            · rcases List.mem_append.1 hz with hz | hz
              · exact h2 z hz
              · rw [List.mem_singleton.1 hz]; exact hy
            · rw [List.getElem?_append] at hz
              split at hz
              · exact h3 i z hz
              · rename_i hi
                have : i = k := by
                  rcases Nat.lt_or_ge (i - l.length) 1 with h | h
                  · omega
                  · rw [List.getElem?_eq_none (by simpa using h)] at hz; cases hz
                subst this
                rw [h1, Nat.sub_self] at hz
                simp at hz; subst hz
                exact ⟨cs', h4, h5⟩
        obtain ⟨l, hll, hok, hcell⟩ := build len (Nat.le_refl _)
        subst hll
        refine ⟨l, ⟨by show l.length ≤ _; omega, hok⟩, CellsC.one ?_⟩
        show VC w (Kall w) (.sl sz (l.map (Sh.enc e))) _
        have hlen : (l.map (Sh.enc e)).length = l.length := by simp
        have hsplit : ∀ j, j < l.length * sz → j / sz < l.length := fun j hj => Nat.div_lt_of_lt_mul (by rw [Nat.mul_comm]; exact hj)
        have hspot : 0 < l.length * sz → a.spot = none := fun h0 => by
          have hi : 0 < l.length := Nat.pos_of_mul_pos_right h0
          obtain ⟨cs', h1, h2⟩ := hcell 0 _ (List.getElem?_eq_getElem hi)
          obtain ⟨g1, g2⟩ := cells?_get h1
          have := g2 0 hpos
          rw [List.getElem?_eq_getElem (by omega)] at this
          simpa [Addr.add] using World.cell?_spot this
        have hcv : ∀ i j, i < l.length → j < sz → a.spot = none → ∃ y cs' v, l[i]? = some y ∧ cs'[j]? = some v ∧ CellsC w (e.enc y) cs' ∧ w.cell? ⟨a.block, a.off + (i * sz + j), none⟩ = some v := fun i j hi hj hs => by
          obtain ⟨cs', h1, h2⟩ := hcell i _ (List.getElem?_eq_getElem hi)
          obtain ⟨g1, g2⟩ := cells?_get h1
          have h3 := g2 j hj
          have hcj : cs'[j]? = some (cs'[j]'(by omega)) := List.getElem?_eq_getElem (by omega)
          have ha : a = ⟨a.block, a.off, none⟩ := by cases a; simp at hs; subst hs; rfl
          rw [ha, add_none, add_none, hcj] at h3
          refine ⟨_, cs', _, List.getElem?_eq_getElem hi, hcj, h2, ?_⟩
          rw [← h3, Nat.add_assoc]
        rw [show (Value.slice (some a) l.length cap) = .slice (some a) (l.map (Sh.enc e)).length cap by rw [hlen]]
        refine .sl sz _ a cap (fun j => (w.cell? ⟨a.block, a.off + j, none⟩).getD undef) (fun r hr => ?_) (by rw [hlen]; exact hl) hm (fun j hj => ?_) (fun i j r c hr hc => ?_)
        · obtain ⟨y, _, rfl⟩ := List.mem_map.1 hr
          rw [Sh.enc_len, hes]
        · rw [hlen] at hj
          have hs := hspot (by omega)
          obtain ⟨y, cs', v, _, _, _, h⟩ := hcv (j / sz) (j % sz) (hsplit j hj) (Nat.mod_lt _ hpos) hs
          have hd := Nat.div_add_mod j sz
          rw [Nat.mul_comm] at hd
          rw [hd] at h
          exact ⟨hs, by simp [Kall, h], by simp [h]⟩
        · rw [List.getElem?_map] at hr
          cases hy : l[i]? with
          | none => rw [hy] at hr; cases hr
          | some y =>
            rw [hy] at hr; injection hr with hr; subst hr
            have hi : i < l.length := (List.getElem?_eq_some_iff.1 hy).1
            have hj : j < sz := by
              have := (List.getElem?_eq_some_iff.1 hc).1
              rw [Sh.enc_len, hes] at this; exact this
            have hs := hspot (Nat.mul_pos (by omega) hpos)
            obtain ⟨y', cs', v, h1, h2, h3, h4⟩ := hcv i j hi hj hs
            rw [hy] at h1; injection h1 with h1; subst h1
            have := h3.2 j c v hc h2
            simpa [h4] using this
    · cases ht
  | .nil => by
    refine ⟨fun t ht => by simp [Program.has] at ht, fun fs o h fuel vs hf hl => ⟨(), trivial, ?_⟩⟩
    simp [Sh.size] at hl
    exact ⟨by simp [Sh.enc, hl], fun j c v h => by simp [Sh.enc] at h⟩
  | .cons f r => by
    have key : ∀ (fs : List Field) (o : Nat) fd rest, fs = fd :: rest → fd.offset = o → P.cellsOf fd.type = f.size → Program.has P f (.inl fd.type) = true → Program.has P r (.inr (rest, o + f.size)) = true →
        ∀ (fuel : Nat) (vs : List Value), (∀ f ∈ fs, ∃ y, DataW.trod enc P w 0 sp held fuel f.type ((vs.drop f.offset).take (P.cellsOf f.type)) = some y) → vs.length = o + (Sh.cons f r).size →
        ∃ a : Val (.cons f r), Sh.ok (.cons f r) a ∧ CellsC w (Sh.enc (.cons f r) a) (vs.drop o) := fun fs o fd rest e1 e2 e3 e4 e5 fuel vs hf hl => by
      subst e1
      obtain ⟨y, hy⟩ := hf fd (by simp)
      rw [e2, e3] at hy
      obtain ⟨a, ha, hca⟩ := (trod_C f).1 _ e4 fuel _ _ hy
      simp only [Sh.size] at hl
      obtain ⟨b, hb, hcb⟩ := (trod_C r).2 rest (o + f.size) e5 fuel vs (fun g hg => hf g (by simp [hg])) (by omega)
      refine ⟨(a, b), ⟨ha, hb⟩, ?_⟩
      have : vs.drop o = (vs.drop o).take f.size ++ vs.drop (o + f.size) := by
        rw [← List.drop_drop, List.take_append_drop]
      rw [this]
      exact hca.app hcb
    refine ⟨fun t ht fuel vs x h => ?_, fun fs o h fuel vs hf hl => ?_⟩
    · simp only [Program.has] at ht
      split at ht
      · rename_i fa hu
        split at ht
        · rename_i fd rest hfs
          simp only [Bool.and_eq_true, beq_iff_eq] at ht
          obtain ⟨⟨⟨⟨h1, h2⟩, h3⟩, h4⟩, h5⟩ := ht
          obtain ⟨xs, n, _, _, hlen, hxl, hx⟩ := DataW.trod_struct hu h
          have := key fa.toList 0 fd rest hfs h2 h3 h4 (by simpa using h5) n vs (fun g hg => by
            obtain ⟨i, hi⟩ := List.getElem?_of_mem hg
            have hi' : fa[i]? = some g := by simpa using hi
            have hlt : i < fa.size := (Array.getElem?_eq_some_iff.1 hi').1
            exact ⟨_, (hx i g hi').trans (List.getElem?_eq_getElem (by omega))⟩) (by simp only [Sh.size]; omega)
          simpa using this
        · cases ht
      · cases ht
    · simp only [Program.has] at h
      split at h
      · rename_i fd rest
        simp only [Bool.and_eq_true, beq_iff_eq] at h
        obtain ⟨⟨⟨h2, h3⟩, h4⟩, h5⟩ := h
        exact key _ o fd rest rfl h2 h3 h4 h5 fuel vs hf hl
      · cases h
end
end Go.Dl

/- The frame of a law: from its contract to the statement's form. -/
namespace Go.Dl
open Go.RowKit Go.ChangeShapes Go.WideShapes Go.ChangeAt

theorem CellsC.one_inv {w : World} {c : C} {v : Value} (h : CellsC w [c] [v]) : VC w (Kall w) c v := h.2 0 c v rfl rfl

def ArgD (s : Sh) (a : Val s) : D :=
  match s, s.enc a with
  | .cons _ _, cs => .agg (cs.map T.c)
  | .nil, cs => .agg (cs.map T.c)
  | _, [c] => .one (.c c)
  | _, _ => .any

theorem arg_read {P : Program} {H : Type} {enc : TypeId × Value → H} {w : World} {t : TypeId} {v : Value} {d : DataW H} {ps : List MemPlace} {base : Nat} (s : Sh) (hs : Program.has P s (.inl t) = true)
    (hok : Value.okWide P w .any base t v) (h : DataW.Trod enc P w 0 (fun _ => true) true t v d ps) : ∃ a : Val s, s.ok a ∧ VD w (E0 (Kall w)) (ArgD s a) v := by
  obtain ⟨fuel, hf⟩ := h
  obtain ⟨a, ha, hc⟩ := (trod_C s).1 t hs fuel _ _ hf
  refine ⟨a, ha, ?_⟩
  have single : ∀ c : C, s.enc a = [c] → (∃ x, v = x ∧ x.cells = #[x]) → VD w (E0 (Kall w)) (.one (.c c)) v := fun c e ⟨x, e1, e2⟩ => by
    subst e1
    rw [e, e2] at hc
    exact .one _ _ (.c _ _ hc.one_inv)
  have aggr : (∃ cs, v = .agg cs) → VD w (E0 (Kall w)) (.agg ((s.enc a).map T.c)) v := fun ⟨cs, e⟩ => by
    subst e
    have hcs : CellsC w (s.enc a) cs.toList := hc
    refine .agg _ _ (by have := hcs.1; simpa using this) fun j t v h1 h2 => ?_
    rw [List.getElem?_map] at h1
    cases hx : (s.enc a)[j]? with
    | none => rw [hx] at h1; cases h1
    | some c =>
      rw [hx] at h1; injection h1 with h1; subst h1
      exact .c _ _ (hcs.2 j c v hx (by simpa using h2))
  cases s with
  | int k =>
    simp only [Program.has] at hs
    split at hs
    · rename_i k' hu
      obtain ⟨n, rfl⟩ := okWide_int hu hok
      exact single _ rfl ⟨_, rfl, rfl⟩
    · cases hs
  | bool =>
    simp only [Program.has] at hs
    split at hs
    · rename_i hu
      obtain ⟨n, rfl⟩ := okWide_bool hu hok
      exact single _ rfl ⟨_, rfl, rfl⟩
    · cases hs
  | str =>
    simp only [Program.has] at hs
    split at hs
    · rename_i hu
      obtain ⟨n, rfl⟩ := okWide_string hu hok
      exact single _ rfl ⟨_, rfl, rfl⟩
    · cases hs
  | sl sz e =>
    simp only [Program.has] at hs
    split at hs
    · rename_i el hu
      obtain ⟨x, len, cap, rfl⟩ := okWide_slice hu hok
      exact single _ rfl ⟨_, rfl, rfl⟩
    · cases hs
  | nil => simp [Program.has] at hs
  | cons f r =>
    simp only [Program.has] at hs
    split at hs
    · rename_i fs hu
      simp only [Value.okWide, hu] at hok
      obtain ⟨cs, rfl, _⟩ := hok
      exact aggr ⟨cs, rfl⟩
    · cases hs

def TabsAt (w : World) : Prop := ∀ g vs, gtab g = some vs → ∀ (o : Nat) v, vs[o]? = some v → v.oneCell' = true ∧ w.cell? ⟨g, o, none⟩ = some v

theorem law_calls {P : Program} {f : FuncId} {ds : List D} (hc : DCalls P f ds (.one (.c (.lit (.bool true))))) {w : World} {vs : Array Value} (hl : vs.size = ds.length) (hv : ∀ (j : Nat) d v, ds[j]? = some d → vs[j]? = some v → VD w (E0 (Kall w)) d v)
    (ht : TabsAt w) : Calls P f vs w fun e w' => e = .returned (.bool true) ∧ Below w.heap.size w w' := by
  refine (hc.2 w (Kall w) vs ⟨fun b o h => h, fun g vs hg o v hv => ?_⟩ hl hv).mono ?_
  · obtain ⟨h1, h2⟩ := ht g vs hg o v hv
    exact ⟨h1, by simp [Kall, h2], h2⟩
  rintro e w' ⟨v, E', rfl, hr, hvd⟩
  exact ⟨by rw [hvd.lit], hr.below⟩
theorem tabs_none {w : World} (h : ∀ g, gtab g = none) : TabsAt w := fun g vs hg => by rw [h] at hg; cases hg
end Go.Dl

/- The logic of data: a range over a string in the text of an iterator: the iteration's own block beside the caller's world. -/
namespace Go.Dl
open Go.RowKit
noncomputable section

def botD : D := .one (.c (.lit (.agg #[])))
theorem botD_no {w : World} {E : Env} {v : Value} : ¬ VD w E botD v := by
  intro h
  unfold botD at h
  cases h with | one t v h => cases h with | c c v h => cases h with | lit v h => simp [Value.oneCell'] at h

def dbl : List (List D) → List (List D)
  | [] => []
  | x :: l => [botD] :: x :: dbl l
theorem dbl_len : ∀ xs, (dbl xs).length = 2 * xs.length
  | [] => rfl
  | x :: l => by simp [dbl, dbl_len l]; omega
theorem dbl_odd : ∀ (xs : List (List D)) (k : Nat), (dbl xs)[2 * k + 1]? = xs[k]?
  | [], k => by simp [dbl]
  | x :: l, 0 => by simp [dbl]
  | x :: l, k + 1 => by
    rw [show 2 * (k + 1) + 1 = (2 * k + 1) + 1 + 1 by omega]
    simp only [dbl, List.getElem?_cons_succ]
    exact dbl_odd l k
theorem dbl_even : ∀ (xs : List (List D)) (k : Nat) (ds : List D), (dbl xs)[2 * k]? = some ds → ds = [botD]
  | [], k, ds, h => by simp [dbl] at h
  | x :: l, 0, ds, h => by simp [dbl] at h; exact h.symm
  | x :: l, k + 1, ds, h => by
    rw [show 2 * (k + 1) = (2 * k) + 1 + 1 by omega] at h
    simp only [dbl, List.getElem?_cons_succ] at h
    exact dbl_even l k ds h

def strJ (J : Option Nat → World → KSet → Prop) (b : Nat) (s : ByteArray) (pos : Nat → Nat) : Option Nat → World → KSet → Prop
  | none, w, K => J none w K
  | some m, w, K => J (some (m / 2)) w K ∧ w.heap[b]? = some (.stringIter s (pos ((m + 1) / 2)))

def half : Option Nat → Option Nat := Option.map (· / 2)
theorem half_even (k : Nat) : half (some (2 * k)) = some k := by simp [half]
theorem strJ_half {J : Option Nat → World → KSet → Prop} {b : Nat} {s : ByteArray} {pos : Nat → Nat} {g : Option Nat} {w : World} {K : KSet} (h : strJ J b s pos g w K) : J (half g) w K := by
  cases g with
  | none => exact h
  | some m => exact h.1

section
variable {P : Program} {m n : Nat} {J : Option Nat → World → KSet → Prop} {s : DS} {g ro : Option Nat} {Q : Exit → DS → Option Nat → Prop}

theorem stab_str (hJ : Stab n J) {n' b : Nat} {str : ByteArray} {pos : Nat → Nat} (hn : n ≤ n') (hb : b < n') : Stab n' (strJ J b str pos) := fun g A B L L' h hu hL => by
  cases g with
  | none => exact hJ _ A B L L' h (hu.mono hn) hL
  | some m => exact ⟨hJ _ A B L L' h.1 (hu.mono hn) hL, (hu.old b hb).trans h.2⟩

theorem yields_str {l : Nat} {xs : List (List D)} (hY : Yields P m n J l xs) {n' b : Nat} {str : ByteArray} {pos : Nat → Nat} (hn : n ≤ n') (hb : m ≤ b) : Yields P m n' (strJ J b str pos) l (dbl xs) := by
  refine ⟨hY.1, fun k ds W L va h1 h2 h3 h4 h5 => ?_⟩
  rcases Nat.mod_two_eq_zero_or_one k with hk | hk
  · obtain ⟨j, rfl⟩ : ∃ j, k = 2 * j := ⟨k / 2, by omega⟩
    have := dbl_even xs j ds h1
    subst this
    have hv := h5 0 botD (va[0]'(by simp at h4; omega)) rfl (Array.getElem?_eq_getElem _)
    exact absurd hv botD_no
  · obtain ⟨j, rfl⟩ : ∃ j, k = 2 * j + 1 := ⟨k / 2, by omega⟩
    rw [dbl_odd] at h1
    have e1 : (2 * j + 1) / 2 = j := by omega
    have e2 : (2 * j + 1 + 1) / 2 = j + 1 := by omega
    have e3 : (2 * j + 1 + 1 + 1) / 2 = j + 1 := by omega
    obtain ⟨q1, q2⟩ := h2
    rw [e1] at q1
    rw [e2] at q2
    obtain ⟨fn, tmps, assign, body, hy, hr⟩ := hY.2 j ds W L va h1 q1 (Nat.le_trans hn h3) h4 h5
    refine ⟨fn, tmps, assign, body, hy, hr.mono ?_⟩
    rintro e W' ⟨b', rfl, r1, r2⟩
    refine ⟨b', rfl, ?_, r2.size, r2.cells, fun c ob hc => r2.others c ob hc⟩
    cases b' with
    | false => exact r1
    | true =>
      simp only [if_true] at r1 ⊢
      refine ⟨by rw [e2]; exact r1, ?_⟩
      rw [e3]
      exact r2.others b _ hb q2 (by simp)

def itD (b : Nat) : D := .one (.c (.lit (.pointer (some ⟨b, 0, none⟩))))

theorem iw_seq_range (hJ : Stab n J) {l : Nat} {xs : List (List D)} (hY : Yields P m n J l xs) {id : Nat} {pre : List Oper} {o : Oper} {t : TypeId} {x : Operand} {d : Nat} {y : Code} {str : ByteArray} (pos : Nat → Nat) (h0 : pos 0 = 0)
    (hop : o.op = .range t x) (hg : o.guard = none) (hdst : o.dst = some d) (hu : P.underlying t = some .string) (hb : dstB (pre ++ [o]) s.n = true)
    (h : wk P ((pre ++ [o]).map (·.dst)) (tagS pre) s.bare fun s1 => s1.flat.ev x = .one (.c (.lit (.string str))) ∧
      ∀ b n' J', Stab n' J' → Yields P m n' J' l (dbl xs) → J' = strJ J b str pos → n ≤ b → b < n' → IW P m n' J' ro y (s1.flat.put (some d) (itD b)) (some 0) (fun e s g => Q e s (half g))) :
    IW P m n J ro (.seq (.region id (pre ++ [o]).toArray false) y) s (some 0) Q := by
  intro K a w hf hj
  refine wpIn_seq ?_
  have hol : o ∈ pre ++ [o] := by simp
  refine wpIn_region_lit ?_
  refine walk_pre (X := ⟨w, K, fun _ _ => False, (E0 K).ρ, NB, ro, m⟩) (N := s.n) (ops := pre ++ [o]) (fun s1 a1 w1 hn1 hs1 hr1 => ?_) pre s.bare a w (dstB_sub hb fun x hx => List.mem_append_left _ hx) rfl ⟨_, hf.rel ro⟩ (wk_walkS _ _ h)
  obtain ⟨K1, q1, q2, q3⟩ := flat_after hf hJ hj hr1
  obtain ⟨hx, hy⟩ := hs1
  obtain ⟨h00, h11, _⟩ := dstB_cons (dstB_sub hb (l' := [o]) fun x hx => List.mem_append_right _ hx)
  have hd : d < s1.flat.n := by rw [show s1.flat.n = s.n from hn1]; exact h11 d hdst
  refine wpListIn_step fun K' hK' => ?_
  have hwant : wantD (pre ++ [o]) s1.flat.bare o = some true := by simp [wantD, hg]
  rw [wantD_ok hwant ⟨_, q1.rel ro⟩]
  simp only [if_true]
  have hev := q1.ev x
  rw [hx] at hev
  have hxv : a1.eval x = .string str := hev.lit
  have hrun : (execOp a1.eval o).run P w1 = .ok (.value (.pointer (some ⟨w1.heap.size, 0, none⟩))) (w1.iter str 0) := by
    unfold execOp
    simp [hop, hxv, Sem.run_bind, run_range_string w1 t str hu]
  refine wpIn_of_wp h00 (wp_run hrun ?_)
  refine hK' _ _ (wpListIn_nil ?_)
  have hush : Hush w1.heap.size w1 (w1.iter str 0) := Hush.alloc _ (Nat.le_refl _)
  have hush' : Hush n w1 (w1.iter str 0) := hush.mono q1.mrk
  have hext := hush.ext q1.kok (fun _ _ h => h)
  have hsz : (w1.iter str 0).heap.size = w1.heap.size + 1 := by simp [World.iter]
  have hf2 : Flat m n (s1.flat.put (some d) (itD w1.heap.size)) K1 (a1.put o.dst (.pointer (some ⟨w1.heap.size, 0, none⟩))) (w1.iter str 0) := by
    rw [hdst]
    refine q1.put (fun b o hb => (hext b o hb).2) (by omega) (fun D hD hh => ?_) (fun e he => by injection he with he; subst he; exact hd) (.one _ _ (.c _ _ (.lit _ rfl)))
    have hlt : D < w1.heap.size := (Array.getElem?_eq_some_iff.1 hh).1
    exact (hush.old D hlt).trans hh
  have hnb : n ≤ w1.heap.size := q1.mrk
  have hmn := q1.mn
  have hj2 : strJ J w1.heap.size str pos (some 0) (w1.iter str 0) K1 := ⟨hJ _ w1 _ K1 K1 q2 hush' fun b o h => .inl h, by rw [show pos ((0 + 1) / 2) = 0 from h0]; exact World.iter_heap w1 str 0⟩
  have hf3 : Flat m (w1.heap.size + 1) (s1.flat.put (some d) (itD w1.heap.size)) K1 (a1.put o.dst (.pointer (some ⟨w1.heap.size, 0, none⟩))) (w1.iter str 0) := by
    obtain ⟨r1, r2, r3, r4, r5, r6, r7⟩ := hf2
    exact ⟨r1, r2, r3, r4, by omega, by omega, r7⟩
  have := hy w1.heap.size (w1.heap.size + 1) _ (stab_str hJ (by omega) (Nat.lt_succ_self _)) (yields_str hY (by omega) (by omega)) rfl (by omega) (by omega) K1 _ _ hf3 hj2
  refine wpIn_mono this ?_
  rintro e a' w' ⟨s', g', K', z1, z2, z3, z4⟩
  obtain ⟨r1, r2, r3, r4, r5, r6, r7⟩ := z2
  exact ⟨s', half g', K', z1, ⟨r1, r2, r3, r4, by omega, q1.mn, r7⟩, strJ_half z3, q3.trans (hext.trans z4)⟩
def nextD (b : Nat) (str : ByteArray) (pos : Nat → Nat) (o : Oper) (s : DS) (g : Option Nat) (K : DS → Option Nat → Prop) : Prop :=
  ∃ it k, o.op = .next it true ∧ o.guard = none ∧ s.ev it = itD b ∧ g = some (2 * k) ∧
    (pos k < str.size → pos (k + 1) = pos k + (Utf8.decode str (pos k)).2 ∧
      K (s.put o.dst (.tup [.one (.c (.lit (.bool true))), .one (.c (.lit (.int .i64 (pos k)))), .one (.c (.lit (.int .i32 (Utf8.decode str (pos k)).1)))])) (some (2 * k + 1))) ∧
    (¬ pos k < str.size → K (s.put o.dst (.tup [.one (.c (.lit (.bool false)))])) (some (2 * k)))

theorem run_next_at (w : World) (b : Nat) (str : ByteArray) (q : Nat) (ty : TypeId) (hh : w.heap[b]? = some (.stringIter str q)) (h : q < str.size) :
    (Instr.next (.pointer (some ⟨b, 0, none⟩)) true ty).run P w = .ok (.tuple #[.bool true, .int .i64 q, .int .i32 (Utf8.decode str q).1]) (w.putObj b (.stringIter str (q + (Utf8.decode str q).2))) := by
  simp [Instr.next, getObj, setObj, Sem.run_bind, Sem.run, hh, Result.andThen, h, goInt, World.putObj]
theorem run_next_over (w : World) (b : Nat) (str : ByteArray) (q : Nat) (ty : TypeId) (hh : w.heap[b]? = some (.stringIter str q)) (h : ¬ q < str.size) :
    (Instr.next (.pointer (some ⟨b, 0, none⟩)) true ty).run P w = .ok (.tuple #[.bool false]) w := by
  simp [Instr.next, getObj, Sem.run_bind, Sem.run, hh, Result.andThen, h]

theorem next_ok {n0 b : Nat} {str : ByteArray} {pos : Nat → Nat} (hJ0 : Stab n0 J) (hnb : n0 ≤ b) {ops r : List Oper} {o : Oper} {N : Nat} {Kp : DS → Option Nat → Prop} {Q' : Exit → Act → World → Prop} {K0 : KSet} {w0 : World}
    (hK : ∀ s g K a w, s.n = N → Kp s g → Flat m n s K a w → strJ J b str pos g w K → Ext w0 K0 w K → wpListIn (rd ro) 0 P ops.toArray Q' r a w) {K : KSet} {a : Act} {w : World} (hb : dstB [o] N = true) (hn : s.n = N) (hf : Flat m n s K a w) (hj : strJ J b str pos g w K) (he : Ext w0 K0 w K)
    (h : nextD b str pos o s g Kp) : wpListIn (rd ro) 0 P ops.toArray Q' (o :: r) a w := by
  obtain ⟨h0, h1, _⟩ := dstB_cons hb
  have hd : ∀ d, o.dst = some d → d < s.n := fun d hd => by rw [hn]; exact h1 d hd
  refine wpListIn_step fun K' hK' => ?_
  obtain ⟨it, k, hop, hg, hev, rfl, hin, hout⟩ := h
  have hwant : wantD ops s.bare o = some true := by simp [wantD, hg]
  rw [wantD_ok hwant ⟨_, hf.rel ro⟩]
  simp only [if_true]
  have hv := hf.ev it
  rw [hev] at hv
  have hit : a.eval it = .pointer (some ⟨b, 0, none⟩) := hv.lit
  obtain ⟨j1, j2⟩ := hj
  have e1 : 2 * k / 2 = k := by omega
  have e2 : (2 * k + 1) / 2 = k := by omega
  have e3 : (2 * k + 1 + 1) / 2 = k + 1 := by omega
  rw [e1] at j1
  rw [e2] at j2
  by_cases hlt : pos k < str.size
  · obtain ⟨hp, hKp⟩ := hin hlt
    have hrun : (execOp a.eval o).run P w = .ok (.value (.tuple #[.bool true, .int .i64 (pos k), .int .i32 (Utf8.decode str (pos k)).1])) (w.putObj b (.stringIter str (pos k + (Utf8.decode str (pos k)).2))) := by
      unfold execOp
      simp [hop, hit, Sem.run_bind, run_next_at w b str (pos k) _ j2 hlt]
    have hu : Hush n0 w (w.putObj b (.stringIter str (pos k + (Utf8.decode str (pos k)).2))) := Hush.putObj _ hnb j2 (by simp)
    have hext := hu.ext hf.kok (fun _ _ h => h)
    refine wpIn_of_wp h0 (wp_run hrun ?_)
    refine hK' _ _ (hK _ _ K _ _ (by rw [put_n]; exact hn) hKp (hf.put (fun c o hc => (hext c o hc).2) hu.size (fun D _ hh => ?_) hd ?_) ⟨by rw [e2]; exact hJ0 _ w _ K K j1 hu fun b o h => .inl h, ?_⟩ (he.trans hext))
    · have : D ≠ b := fun e => by rw [e, j2] at hh; cases hh
      exact (World.putObj_heap_other this).trans hh
    · refine .tup _ _ rfl fun j d v h1 h2 => ?_
      match j with
      | 0 => simp at h1 h2; subst h1; subst h2; exact .one _ _ (.c _ _ (.lit _ rfl))
      | 1 => simp at h1 h2; subst h1; subst h2; exact .one _ _ (.c _ _ (.lit _ rfl))
      | 2 => simp at h1 h2; subst h1; subst h2; exact .one _ _ (.c _ _ (.lit _ rfl))
      | j + 3 => simp at h1
    · rw [e3, hp]
      exact World.putObj_heap_same (Array.getElem?_eq_some_iff.1 j2).1
  · have hrun : (execOp a.eval o).run P w = .ok (.value (.tuple #[.bool false])) w := by
      unfold execOp
      simp [hop, hit, Sem.run_bind, run_next_over w b str (pos k) _ j2 hlt]
    refine wpIn_of_wp h0 (wp_run hrun ?_)
    refine hK' _ _ (hK _ _ K _ _ (by rw [put_n]; exact hn) (hout hlt) (hf.put (fun _ _ _ => rfl) (Nat.le_refl _) (fun _ _ h => h) hd ?_) ⟨by rw [e1]; exact j1, by rw [e2]; exact j2⟩ he)
    refine .tup _ _ rfl fun j d v h1 h2 => ?_
    match j with
    | 0 => simp at h1 h2; subst h1; subst h2; exact .one _ _ (.c _ _ (.lit _ rfl))
    | j + 1 => simp at h1

theorem iw_region_next {n0 b : Nat} {str : ByteArray} {pos : Nat → Nat} (hJ0 : Stab n0 J) (hnb : n0 ≤ b) (hJ : Stab n (strJ J b str pos)) {id : Nat} {ops : List Oper} (i : Nat) {o : Oper} (ho : ops[i]? = some o) (hb : dstB ops s.n = true)
    (h : wk P (ops.map (·.dst)) (tagS (ops.take i)) s.bare fun s1 => nextD b str pos o s1.flat g fun s2 g2 => wk P (ops.map (·.dst)) (tagS (ops.drop (i + 1))) s2.bare fun s3 => Q .normal s3.flat g2) : IW P m n (strJ J b str pos) ro (.region id ops.toArray false) s g Q := by
  intro K a w hf hj
  have hi : i < ops.length := (List.getElem?_eq_some_iff.1 ho).1
  have hsp : ops = ops.take i ++ (o :: ops.drop (i + 1)) := by
    have : o = ops[i] := by rw [List.getElem?_eq_getElem hi] at ho; injection ho with ho; exact ho.symm
    rw [this, ← List.drop_eq_getElem_cons hi, List.take_append_drop]
  have hol : o ∈ ops := List.mem_of_getElem? ho
  refine wpIn_region_lit ?_
  conv => arg 6; rw [hsp]
  refine walk_pre (X := ⟨w, K, fun _ _ => False, (E0 K).ρ, NB, ro, m⟩) (N := s.n) (fun s1 a1 w1 hn1 hs1 hr1 => ?_) (ops.take i) s.bare a w (dstB_sub hb fun x hx => List.mem_of_mem_take hx) rfl ⟨_, hf.rel ro⟩ (wk_walkS _ _ h)
  obtain ⟨K1, q1, q2, q3⟩ := flat_after hf hJ hj hr1
  refine next_ok (s := s1.flat) (N := s.n) (w0 := w) (K0 := K) hJ0 hnb (fun s2 g2 K2 a2 w2 hn2 hs2 hf2 hj2 he2 => ?_) (dstB_sub hb fun x hx => by simp at hx; exact hx ▸ hol) hn1 q1 q2 q3 hs1
  have := walk_pre (X := ⟨w2, K2, fun _ _ => False, (E0 K2).ρ, NB, ro, m⟩) (N := s.n) (r := []) (Q' := fun e a' w' => ∃ s' g' K', Q e s' g' ∧ Flat m n s' K' a' w' ∧ strJ J b str pos g' w' K' ∧ Ext w K w' K') (fun s3 a3 w3 _ hs3 hr3 => ?_) (ops.drop (i + 1)) s2.bare a2 w2 (dstB_sub hb fun x hx => List.mem_of_mem_drop hx) hn2 ⟨_, hf2.rel ro⟩ (wk_walkS _ _ hs2)
  · rw [List.append_nil] at this; exact this
  · obtain ⟨K3, p1, p2, p3⟩ := flat_after hf2 hJ hj2 hr3
    exact wpListIn_nil ⟨_, g2, K3, hs3, p1, p2, he2.trans p3⟩
end
end
end Go.Dl

/- The reading of arguments, with their size. -/
namespace Go.Dl
open Go.RowKit Go.ChangeShapes Go.WideShapes Go.ChangeAt

def sizeV : (s : Sh) → Val s → Nat
  | .int _, _ => 1
  | .bool, _ => 1
  | .str, s => (show ByteArray from s).size + 1
  | .sl _ e, l => 1 + ((show List (Val e) from l).map (sizeV e)).sum
  | .nil, _ => 0
  | .cons f r, x => sizeV f x.1 + sizeV r x.2

structure IsBulk {H : Type} (B : DataW H → Nat) : Prop where
  pos : ∀ d, 1 ≤ B d
  str : ∀ bs : List UInt8, bs.length + 1 ≤ B (.lit (.string bs))
  sl : ∀ es ss : List (DataW H), 1 + (es.map B).sum ≤ B (.slice es ss)
  agg : ∀ ps : List (DataW H), (ps.map B).sum ≤ B (.agg ps)

section
variable {P : Program} {H : Type} {enc : TypeId × Value → H} {w : World} {sp : Nat → Bool} {held : Bool}
theorem trod_B {B : DataW H → Nat} (hB : IsBulk B) : (s : Sh) → (∀ (t : TypeId), Program.has P s (.inl t) = true → ∀ (fuel : Nat) (vs : List Value) x, DataW.trod enc P w 0 sp held fuel t vs = some x → ∃ a : Val s, s.ok a ∧ CellsC w (s.enc a) vs ∧ sizeV s a ≤ B x.1) ∧
    (∀ (fs : List Field) (o : Nat), Program.has P s (.inr (fs, o)) = true → ∀ (fuel : Nat) (vs : List Value), ∀ ys : List (DataW H × List MemPlace), ys.length = fs.length → (∀ (i : Nat) (f : Field), fs[i]? = some f → DataW.trod enc P w 0 sp held fuel f.type ((vs.drop f.offset).take (P.cellsOf f.type)) = ys[i]?) → vs.length = o + s.size →
      ∃ a : Val s, s.ok a ∧ CellsC w (s.enc a) (vs.drop o) ∧ sizeV s a ≤ (ys.map fun y => B y.1).sum)
  | .int k => by
    refine ⟨fun t ht fuel vs x h => ?_, fun fs o h => by simp [Program.has] at h⟩
    simp only [Program.has] at ht
    split at ht
    · rename_i k' hu
      have hk : k' = k := by simpa using ht
      subst hk
      obtain ⟨n, rfl, _, hw⟩ := DataW.trod_int hu h
      exact ⟨n, hw, CellsC.one (.lit _ rfl), hB.pos _⟩
    · cases ht
  | .bool => by
    refine ⟨fun t ht fuel vs x h => ?_, fun fs o h => by simp [Program.has] at h⟩
    simp only [Program.has] at ht
    split at ht
    · rename_i hu
      obtain ⟨b, rfl, _⟩ := DataW.trod_bool hu h
      exact ⟨b, trivial, CellsC.one (.lit _ rfl), hB.pos _⟩
    · cases ht
  | .str => by
    refine ⟨fun t ht fuel vs x h => ?_, fun fs o h => by simp [Program.has] at h⟩
    simp only [Program.has] at ht
    split at ht
    · rename_i hu
      obtain ⟨s, rfl, rfl, hs⟩ := DataW.trod_string hu h
      exact ⟨s, hs, CellsC.one (.lit _ rfl), by have := hB.str s.data.toList; simp only [sizeV]; simpa using this⟩
    · cases ht
  | .sl sz e => by
    refine ⟨fun t ht fuel vs x h => ?_, fun fs o h => by simp [Program.has] at h⟩
    simp only [Program.has] at ht
    split at ht
    · rename_i el hu
      simp only [Bool.and_eq_true, beq_iff_eq, decide_eq_true_eq] at ht
      obtain ⟨⟨⟨hc, hpos⟩, hes⟩, he⟩ := ht
      rcases Go.Deep.open_slice hu h with ⟨rfl, rfl⟩ | ⟨a, len, cap, m, n, D, Pl, rfl, hb, hl, hm, hmm, rfl, hx⟩
      · exact ⟨([] : List (Val e)), ⟨by simp, by simp⟩, CellsC.one (.nil sz), hB.pos _⟩
      · have hlm : len ≤ m := by subst hmm; split <;> omega
        have each : ∀ i, i < len → ∃ y : Val e, e.ok y ∧ ∃ cs', w.cells? 0 (a.add (i * sz)) sz = some cs' ∧ CellsC w (e.enc y) cs' ∧ sizeV e y ≤ B (D i) := fun i hi => by
          obtain ⟨cs', h1, h2⟩ := hx i (by omega)
          rw [hc] at h1
          obtain ⟨y, hy, hy2⟩ := (trod_B hB e).1 el he n cs' _ h2
          exact ⟨y, hy, cs', h1, hy2.1, hy2.2⟩
        have build : ∀ k, k ≤ len → ∃ l : List (Val e), l.length = k ∧ (∀ y ∈ l, e.ok y) ∧ (∀ i y, l[i]? = some y → ∃ cs', w.cells? 0 (a.add (i * sz)) sz = some cs' ∧ CellsC w (e.enc y) cs') ∧ (l.map (sizeV e)).sum ≤ ((List.range k).map fun i => B (D i)).sum := by
          intro k
          induction k with
          | zero => exact fun _ => ⟨[], rfl, by simp, by simp, by simp⟩
          | succ k ih =>
            intro hk
            obtain ⟨l, h1, h2, h3, h6⟩ := ih (by omega)
            obtain ⟨y, hy, cs', h4, h5, h7⟩ := each k (by omega)
            refine ⟨l ++ [y], by simp [h1], fun z hz => ?_, fun i z hz => ?_, by simp [List.range_succ]; omega⟩
            · rcases List.mem_append.1 hz with hz | hz
              · exact h2 z hz
              · rw [List.mem_singleton.1 hz]; exact hy
            · rw [List.getElem?_append] at hz
              split at hz
              · exact h3 i z hz
              · rename_i hi
                have : i = k := by
                  rcases Nat.lt_or_ge (i - l.length) 1 with h | h
                  · omega
                  · rw [List.getElem?_eq_none (by simpa using h)] at hz; cases hz
                subst this
                rw [h1, Nat.sub_self] at hz
                simp at hz; subst hz
                exact ⟨cs', h4, h5⟩
        obtain ⟨l, hll, hok, hcell, hsum⟩ := build len (Nat.le_refl _)
        subst hll
        refine ⟨l, ⟨by show l.length ≤ _; omega, hok⟩, CellsC.one ?_, by have := hB.sl ((List.range l.length).map D) ((List.range (m - l.length)).map fun j => D (l.length + j)); simp only [sizeV]; rw [List.map_map] at this; exact Nat.le_trans (Nat.add_le_add_left hsum 1) this⟩
        show VC w (Kall w) (.sl sz (l.map (Sh.enc e))) _
        have hlen : (l.map (Sh.enc e)).length = l.length := by simp
        have hsplit : ∀ j, j < l.length * sz → j / sz < l.length := fun j hj => Nat.div_lt_of_lt_mul (by rw [Nat.mul_comm]; exact hj)
        have hspot : 0 < l.length * sz → a.spot = none := fun h0 => by
          have hi : 0 < l.length := Nat.pos_of_mul_pos_right h0
          obtain ⟨cs', h1, h2⟩ := hcell 0 _ (List.getElem?_eq_getElem hi)
          obtain ⟨g1, g2⟩ := cells?_get h1
          have := g2 0 hpos
          rw [List.getElem?_eq_getElem (by omega)] at this
          simpa [Addr.add] using World.cell?_spot this
        have hcv : ∀ i j, i < l.length → j < sz → a.spot = none → ∃ y cs' v, l[i]? = some y ∧ cs'[j]? = some v ∧ CellsC w (e.enc y) cs' ∧ w.cell? ⟨a.block, a.off + (i * sz + j), none⟩ = some v := fun i j hi hj hs => by
          obtain ⟨cs', h1, h2⟩ := hcell i _ (List.getElem?_eq_getElem hi)
          obtain ⟨g1, g2⟩ := cells?_get h1
          have h3 := g2 j hj
          have hcj : cs'[j]? = some (cs'[j]'(by omega)) := List.getElem?_eq_getElem (by omega)
          have ha : a = ⟨a.block, a.off, none⟩ := by cases a; simp at hs; subst hs; rfl
          rw [ha, add_none, add_none, hcj] at h3
          refine ⟨_, cs', _, List.getElem?_eq_getElem hi, hcj, h2, ?_⟩
          rw [← h3, Nat.add_assoc]
        rw [show (Value.slice (some a) l.length cap) = .slice (some a) (l.map (Sh.enc e)).length cap by rw [hlen]]
        refine .sl sz _ a cap (fun j => (w.cell? ⟨a.block, a.off + j, none⟩).getD undef) (fun r hr => ?_) (by rw [hlen]; exact hl) hm (fun j hj => ?_) (fun i j r c hr hc => ?_)
        · obtain ⟨y, _, rfl⟩ := List.mem_map.1 hr
          rw [Sh.enc_len, hes]
        · rw [hlen] at hj
          have hs := hspot (by omega)
          obtain ⟨y, cs', v, _, _, _, h⟩ := hcv (j / sz) (j % sz) (hsplit j hj) (Nat.mod_lt _ hpos) hs
          have hd := Nat.div_add_mod j sz
          rw [Nat.mul_comm] at hd
          rw [hd] at h
          exact ⟨hs, by simp [Kall, h], by simp [h]⟩
        · rw [List.getElem?_map] at hr
          cases hy : l[i]? with
          | none => rw [hy] at hr; cases hr
          | some y =>
            rw [hy] at hr; injection hr with hr; subst hr
            have hi : i < l.length := (List.getElem?_eq_some_iff.1 hy).1
            have hj : j < sz := by
              have := (List.getElem?_eq_some_iff.1 hc).1
              rw [Sh.enc_len, hes] at this; exact this
            have hs := hspot (Nat.mul_pos (by omega) hpos)
            obtain ⟨y', cs', v, h1, h2, h3, h4⟩ := hcv i j hi hj hs
            rw [hy] at h1; injection h1 with h1; subst h1
            have := h3.2 j c v hc h2
            simpa [h4] using this
    · cases ht
  | .nil => by
    refine ⟨fun t ht => by simp [Program.has] at ht, fun fs o h fuel vs ys hy hf hl => ⟨(), trivial, ?_, Nat.zero_le _⟩⟩
    simp [Sh.size] at hl
    exact ⟨by simp [Sh.enc, hl], fun j c v h => by simp [Sh.enc] at h⟩
  | .cons f r => by
    have key : ∀ (fs : List Field) (o : Nat) fd rest, fs = fd :: rest → fd.offset = o → P.cellsOf fd.type = f.size → Program.has P f (.inl fd.type) = true → Program.has P r (.inr (rest, o + f.size)) = true →
        ∀ (fuel : Nat) (vs : List Value), ∀ ys : List (DataW H × List MemPlace), ys.length = fs.length → (∀ (i : Nat) (f : Field), fs[i]? = some f → DataW.trod enc P w 0 sp held fuel f.type ((vs.drop f.offset).take (P.cellsOf f.type)) = ys[i]?) → vs.length = o + (Sh.cons f r).size →
        ∃ a : Val (.cons f r), Sh.ok (.cons f r) a ∧ CellsC w (Sh.enc (.cons f r) a) (vs.drop o) ∧ sizeV (.cons f r) a ≤ (ys.map fun y => B y.1).sum := fun fs o fd rest e1 e2 e3 e4 e5 fuel vs ys hyl hf hl => by
      subst e1
      cases ys with
      | nil => simp at hyl
      | cons y ys =>
      have hy := hf 0 fd rfl
      rw [e2, e3] at hy
      obtain ⟨a, ha, hca, hsa⟩ := (trod_B hB f).1 _ e4 fuel _ y hy
      simp only [Sh.size] at hl
      obtain ⟨b, hb, hcb, hsb⟩ := (trod_B hB r).2 rest (o + f.size) e5 fuel vs ys (by simpa using hyl) (fun i g hg => by simpa using hf (i + 1) g (by simpa using hg)) (by omega)
      refine ⟨(a, b), ⟨ha, hb⟩, ?_, by simp only [sizeV, List.map_cons, List.sum_cons]; omega⟩
      have : vs.drop o = (vs.drop o).take f.size ++ vs.drop (o + f.size) := by
        rw [← List.drop_drop, List.take_append_drop]
      rw [this]
      exact hca.app hcb
    refine ⟨fun t ht fuel vs x h => ?_, fun fs o h fuel vs ys hyl hf hl => ?_⟩
    · simp only [Program.has] at ht
      split at ht
      · rename_i fa hu
        split at ht
        · rename_i fd rest hfs
          simp only [Bool.and_eq_true, beq_iff_eq] at ht
          obtain ⟨⟨⟨⟨h1, h2⟩, h3⟩, h4⟩, h5⟩ := ht
          obtain ⟨xs, n, _, rfl, hlen, hxl, hx⟩ := DataW.trod_struct hu h
          obtain ⟨a, q1, q2, q3⟩ := key fa.toList 0 fd rest hfs h2 h3 h4 (by simpa using h5) n vs xs (by simpa using hxl) (fun i g hg => hx i g (by simpa using hg)) (by simp only [Sh.size]; omega)
          refine ⟨a, q1, by simpa using q2, Nat.le_trans q3 ?_⟩
          have := hB.agg (xs.map (·.1))
          rw [List.map_map] at this; exact this
        · cases ht
      · cases ht
    · simp only [Program.has] at h
      split at h
      · rename_i fd rest
        simp only [Bool.and_eq_true, beq_iff_eq] at h
        obtain ⟨⟨⟨h2, h3⟩, h4⟩, h5⟩ := h
        exact key _ o fd rest rfl h2 h3 h4 h5 fuel vs ys hyl hf hl
      · cases h
end

theorem arg_readB {P : Program} {H : Type} {enc : TypeId × Value → H} {B : DataW H → Nat} (hB : IsBulk B) {w : World} {t : TypeId} {v : Value} {d : DataW H} {ps : List MemPlace} {base : Nat} (s : Sh) (hs : Program.has P s (.inl t) = true)
    (hok : Value.okWide P w .any base t v) (h : DataW.Trod enc P w 0 (fun _ => true) true t v d ps) : ∃ a : Val s, s.ok a ∧ VD w (E0 (Kall w)) (ArgD s a) v ∧ sizeV s a ≤ B d := by
  obtain ⟨fuel, hf⟩ := h
  obtain ⟨a, ha, hc, hsz⟩ := (trod_B hB s).1 t hs fuel _ _ hf
  refine ⟨a, ha, ?_, hsz⟩
  have single : ∀ c : C, s.enc a = [c] → (∃ x, v = x ∧ x.cells = #[x]) → VD w (E0 (Kall w)) (.one (.c c)) v := fun c e ⟨x, e1, e2⟩ => by
    subst e1
    rw [e, e2] at hc
    exact .one _ _ (.c _ _ hc.one_inv)
  have aggr : (∃ cs, v = .agg cs) → VD w (E0 (Kall w)) (.agg ((s.enc a).map T.c)) v := fun ⟨cs, e⟩ => by
    subst e
    have hcs : CellsC w (s.enc a) cs.toList := hc
    refine .agg _ _ (by have := hcs.1; simpa using this) fun j t v h1 h2 => ?_
    rw [List.getElem?_map] at h1
    cases hx : (s.enc a)[j]? with
    | none => rw [hx] at h1; cases h1
    | some c =>
      rw [hx] at h1; injection h1 with h1; subst h1
      exact .c _ _ (hcs.2 j c v hx (by simpa using h2))
  cases s with
  | int k =>
    simp only [Program.has] at hs
    split at hs
    · rename_i k' hu
      obtain ⟨n, rfl⟩ := okWide_int hu hok
      exact single _ rfl ⟨_, rfl, rfl⟩
    · cases hs
  | bool =>
    simp only [Program.has] at hs
    split at hs
    · rename_i hu
      obtain ⟨n, rfl⟩ := okWide_bool hu hok
      exact single _ rfl ⟨_, rfl, rfl⟩
    · cases hs
  | str =>
    simp only [Program.has] at hs
    split at hs
    · rename_i hu
      obtain ⟨n, rfl⟩ := okWide_string hu hok
      exact single _ rfl ⟨_, rfl, rfl⟩
    · cases hs
  | sl sz e =>
    simp only [Program.has] at hs
    split at hs
    · rename_i el hu
      obtain ⟨x, len, cap, rfl⟩ := okWide_slice hu hok
      exact single _ rfl ⟨_, rfl, rfl⟩
    · cases hs
  | nil => simp [Program.has] at hs
  | cons f r =>
    simp only [Program.has] at hs
    split at hs
    · rename_i fs hu
      simp only [Value.okWide, hu] at hok
      obtain ⟨cs, rfl, _⟩ := hok
      exact aggr ⟨cs, rfl⟩
    · cases hs

end Go.Dl

/- Closed facts of the types of this translation, each asked of the kernel. -/
namespace Go.Proofs.YtiaamlaibfpdgaaDoor
open Go.Dl
open Go.Dl renaming dw_seq → kA, dw_block → kB, dw_reg → kC, dw_skip → kD, dw_exit → kE, dw_ret → kF, dw_cond → kG, guardC_f → kH, guardC_t → kI, dw_drw → kJ, dw_weaken → kK, sub_kn → kL, sub_ml → kM
open Go.Dl.CallC renaming mk → kN, light → kO
open Go.Dl.LeL renaming of_eq → kP
@[go_sem] theorem ldk_1 : Program.ldk Tryd.prog 1 = some none := by kernel_rfl
@[go_sem] theorem cellsOfT_1 : cellsOfT Tryd.prog 1 = some 1 := by kernel_rfl
@[go_sem] theorem zeroC_1 : Program.zeroC Tryd.prog 1 = some [.lit .nilFunc] := by kernel_rfl
@[go_sem] theorem zeroT_1 : Program.zeroT Tryd.prog 1 = some [.c (.lit .nilFunc)] := by kernel_rfl
attribute [go_sem] Tryd.underlying1
@[go_sem] theorem ldk_2 : Program.ldk Tryd.prog 2 = some none := by kernel_rfl
@[go_sem] theorem cellsOfT_2 : cellsOfT Tryd.prog 2 = some 1 := by kernel_rfl
@[go_sem] theorem zeroC_2 : Program.zeroC Tryd.prog 2 = some [.lit (.int .i64 0)] := by kernel_rfl
@[go_sem] theorem zeroT_2 : Program.zeroT Tryd.prog 2 = some [.c (.lit (.int .i64 0))] := by kernel_rfl
attribute [go_sem] Tryd.underlying2
@[go_sem] theorem ldk_3 : Program.ldk Tryd.prog 3 = some none := by kernel_rfl
@[go_sem] theorem cellsOfT_3 : cellsOfT Tryd.prog 3 = some 1 := by kernel_rfl
@[go_sem] theorem zeroC_3 : Program.zeroC Tryd.prog 3 = some [.lit (.int .i64 0)] := by kernel_rfl
@[go_sem] theorem zeroT_3 : Program.zeroT Tryd.prog 3 = some [.c (.lit (.int .i64 0))] := by kernel_rfl
attribute [go_sem] Tryd.underlying3
@[go_sem] theorem ldk_4 : Program.ldk Tryd.prog 4 = some none := by kernel_rfl
@[go_sem] theorem cellsOfT_4 : cellsOfT Tryd.prog 4 = some 1 := by kernel_rfl
@[go_sem] theorem zeroC_4 : Program.zeroC Tryd.prog 4 = some [.lit (.bool false)] := by kernel_rfl
@[go_sem] theorem zeroT_4 : Program.zeroT Tryd.prog 4 = some [.c (.lit (.bool false))] := by kernel_rfl
attribute [go_sem] Tryd.underlying4
@[go_sem] theorem isBoolT_4 : Program.isBoolT Tryd.prog 4 = true := by kernel_rfl
@[go_sem] theorem ldk_5 : Program.ldk Tryd.prog 5 = some none := by kernel_rfl
@[go_sem] theorem cellsOfT_5 : cellsOfT Tryd.prog 5 = some 1 := by kernel_rfl
@[go_sem] theorem zeroC_5 : Program.zeroC Tryd.prog 5 = some [.lit (.int .u8 0)] := by kernel_rfl
@[go_sem] theorem zeroT_5 : Program.zeroT Tryd.prog 5 = some [.c (.lit (.int .u8 0))] := by kernel_rfl
attribute [go_sem] Tryd.underlying5
@[go_sem] theorem ldk_7 : Program.ldk Tryd.prog 7 = some (some 4) := by kernel_rfl
@[go_sem] theorem cellsOfT_7 : cellsOfT Tryd.prog 7 = some 4 := by kernel_rfl
@[go_sem] theorem zeroC_7 : Program.zeroC Tryd.prog 7 = some [.lit (.int .i64 0), .lit (.int .i64 0), .lit (.bool false), .lit (.int .u8 0)] := by kernel_rfl
@[go_sem] theorem zeroT_7 : Program.zeroT Tryd.prog 7 = some [.c (.lit (.int .i64 0)), .c (.lit (.int .i64 0)), .c (.lit (.bool false)), .c (.lit (.int .u8 0))] := by kernel_rfl
@[go_sem] theorem places_7 : Program.places Tryd.prog 7 = some [(0, 1), (1, 1), (2, 1), (3, 1)] := by kernel_rfl
@[go_sem] theorem fieldOff_7_0 : Program.fieldOff Tryd.prog 7 0 = some 0 := by kernel_rfl
@[go_sem] theorem fieldOff_7_1 : Program.fieldOff Tryd.prog 7 1 = some 1 := by kernel_rfl
@[go_sem] theorem fieldOff_7_2 : Program.fieldOff Tryd.prog 7 2 = some 2 := by kernel_rfl
@[go_sem] theorem fieldOff_7_3 : Program.fieldOff Tryd.prog 7 3 = some 3 := by kernel_rfl
@[go_sem] theorem ldk_9 : Program.ldk Tryd.prog 9 = some none := by kernel_rfl
@[go_sem] theorem cellsOfT_9 : cellsOfT Tryd.prog 9 = some 1 := by kernel_rfl
@[go_sem] theorem zeroC_9 : Program.zeroC Tryd.prog 9 = some [.lit (.string ⟨#[]⟩)] := by kernel_rfl
@[go_sem] theorem zeroT_9 : Program.zeroT Tryd.prog 9 = some [.c (.lit (.string ⟨#[]⟩))] := by kernel_rfl
attribute [go_sem] Tryd.underlying9
@[go_sem] theorem ldk_12 : Program.ldk Tryd.prog 12 = some none := by kernel_rfl
@[go_sem] theorem cellsOfT_12 : cellsOfT Tryd.prog 12 = some 1 := by kernel_rfl
@[go_sem] theorem zeroC_12 : Program.zeroC Tryd.prog 12 = some [.lit (.int .u64 0)] := by kernel_rfl
@[go_sem] theorem zeroT_12 : Program.zeroT Tryd.prog 12 = some [.c (.lit (.int .u64 0))] := by kernel_rfl
attribute [go_sem] Tryd.underlying12
@[go_sem] theorem ldk_13 : Program.ldk Tryd.prog 13 = some (some 2) := by kernel_rfl
@[go_sem] theorem cellsOfT_13 : cellsOfT Tryd.prog 13 = some 2 := by kernel_rfl
@[go_sem] theorem zeroC_13 : Program.zeroC Tryd.prog 13 = some [.lit (.string ⟨#[]⟩), .lit (.int .u64 0)] := by kernel_rfl
@[go_sem] theorem zeroT_13 : Program.zeroT Tryd.prog 13 = some [.c (.lit (.string ⟨#[]⟩)), .c (.lit (.int .u64 0))] := by kernel_rfl
@[go_sem] theorem places_13 : Program.places Tryd.prog 13 = some [(0, 1), (1, 1)] := by kernel_rfl
@[go_sem] theorem fieldOff_13_0 : Program.fieldOff Tryd.prog 13 0 = some 0 := by kernel_rfl
@[go_sem] theorem fieldOff_13_1 : Program.fieldOff Tryd.prog 13 1 = some 1 := by kernel_rfl
@[go_sem] theorem ldk_15 : Program.ldk Tryd.prog 15 = some none := by kernel_rfl
@[go_sem] theorem cellsOfT_15 : cellsOfT Tryd.prog 15 = some 1 := by kernel_rfl
@[go_sem] theorem zeroC_15 : Program.zeroC Tryd.prog 15 = some [.lit (.pointer none)] := by kernel_rfl
@[go_sem] theorem zeroT_15 : Program.zeroT Tryd.prog 15 = some [.c (.lit (.pointer none))] := by kernel_rfl
attribute [go_sem] Tryd.underlying15
@[go_sem] theorem ldk_16 : Program.ldk Tryd.prog 16 = some none := by kernel_rfl
@[go_sem] theorem cellsOfT_16 : cellsOfT Tryd.prog 16 = some 1 := by kernel_rfl
@[go_sem] theorem zeroC_16 : Program.zeroC Tryd.prog 16 = some [.lit (.pointer none)] := by kernel_rfl
@[go_sem] theorem zeroT_16 : Program.zeroT Tryd.prog 16 = some [.c (.lit (.pointer none))] := by kernel_rfl
attribute [go_sem] Tryd.underlying16
@[go_sem] theorem ldk_17 : Program.ldk Tryd.prog 17 = some none := by kernel_rfl
@[go_sem] theorem cellsOfT_17 : cellsOfT Tryd.prog 17 = some 1 := by kernel_rfl
@[go_sem] theorem zeroC_17 : Program.zeroC Tryd.prog 17 = some [.lit (.pointer none)] := by kernel_rfl
@[go_sem] theorem zeroT_17 : Program.zeroT Tryd.prog 17 = some [.c (.lit (.pointer none))] := by kernel_rfl
attribute [go_sem] Tryd.underlying17
@[go_sem] theorem ldk_18 : Program.ldk Tryd.prog 18 = some (some 1) := by kernel_rfl
@[go_sem] theorem cellsOfT_18 : cellsOfT Tryd.prog 18 = some 1 := by kernel_rfl
@[go_sem] theorem zeroC_18 : Program.zeroC Tryd.prog 18 = some [.lit (.pointer none)] := by kernel_rfl
@[go_sem] theorem zeroT_18 : Program.zeroT Tryd.prog 18 = some [.c (.lit (.pointer none))] := by kernel_rfl
@[go_sem] theorem places_18 : Program.places Tryd.prog 18 = some [(0, 1)] := by kernel_rfl
@[go_sem] theorem fieldOff_18_0 : Program.fieldOff Tryd.prog 18 0 = some 0 := by kernel_rfl
@[go_sem] theorem ldk_20 : Program.ldk Tryd.prog 20 = some none := by kernel_rfl
@[go_sem] theorem cellsOfT_20 : cellsOfT Tryd.prog 20 = some 1 := by kernel_rfl
@[go_sem] theorem zeroC_20 : Program.zeroC Tryd.prog 20 = some [.lit .nilIface] := by kernel_rfl
@[go_sem] theorem zeroT_20 : Program.zeroT Tryd.prog 20 = some [.c (.lit .nilIface)] := by kernel_rfl
@[go_sem] theorem ldk_21 : Program.ldk Tryd.prog 21 = some none := by kernel_rfl
@[go_sem] theorem cellsOfT_21 : cellsOfT Tryd.prog 21 = some 1 := by kernel_rfl
@[go_sem] theorem zeroC_21 : Program.zeroC Tryd.prog 21 = some [.lit (.int .i32 0)] := by kernel_rfl
@[go_sem] theorem zeroT_21 : Program.zeroT Tryd.prog 21 = some [.c (.lit (.int .i32 0))] := by kernel_rfl
attribute [go_sem] Tryd.underlying21
@[go_sem] theorem ldk_22 : Program.ldk Tryd.prog 22 = some none := by kernel_rfl
@[go_sem] theorem cellsOfT_22 : cellsOfT Tryd.prog 22 = some 1 := by kernel_rfl
@[go_sem] theorem zeroC_22 : Program.zeroC Tryd.prog 22 = some [.lit .nilFunc] := by kernel_rfl
@[go_sem] theorem zeroT_22 : Program.zeroT Tryd.prog 22 = some [.c (.lit .nilFunc)] := by kernel_rfl
attribute [go_sem] Tryd.underlying22
@[go_sem] theorem ldk_23 : Program.ldk Tryd.prog 23 = some none := by kernel_rfl
@[go_sem] theorem cellsOfT_23 : cellsOfT Tryd.prog 23 = some 1 := by kernel_rfl
@[go_sem] theorem zeroC_23 : Program.zeroC Tryd.prog 23 = some [.lit .nilFunc] := by kernel_rfl
@[go_sem] theorem zeroT_23 : Program.zeroT Tryd.prog 23 = some [.c (.lit .nilFunc)] := by kernel_rfl
attribute [go_sem] Tryd.underlying23
@[go_sem] theorem ldk_24 : Program.ldk Tryd.prog 24 = some none := by kernel_rfl
@[go_sem] theorem cellsOfT_24 : cellsOfT Tryd.prog 24 = some 1 := by kernel_rfl
@[go_sem] theorem elemSz_24 : Program.elemSz Tryd.prog 24 = some 2 := by kernel_rfl
@[go_sem] theorem appInfo_24 : appInfo Tryd.prog 24 = some (2, 24) := by kernel_rfl
@[go_sem] theorem zeroC_24 : Program.zeroC Tryd.prog 24 = some [.sl 2 []] := by kernel_rfl
@[go_sem] theorem zeroT_24 : Program.zeroT Tryd.prog 24 = some [.ex 2 []] := by kernel_rfl
@[go_sem] theorem nilT_24 : Program.nilT Tryd.prog 24 = true := by kernel_rfl
attribute [go_sem] Tryd.underlying24
@[go_sem] theorem ldk_25 : Program.ldk Tryd.prog 25 = some (some 1) := by kernel_rfl
@[go_sem] theorem cellsOfT_25 : cellsOfT Tryd.prog 25 = some 1 := by kernel_rfl
@[go_sem] theorem zeroC_25 : Program.zeroC Tryd.prog 25 = some [.sl 2 []] := by kernel_rfl
@[go_sem] theorem zeroT_25 : Program.zeroT Tryd.prog 25 = some [.ex 2 []] := by kernel_rfl
@[go_sem] theorem places_25 : Program.places Tryd.prog 25 = some [(0, 1)] := by kernel_rfl
@[go_sem] theorem fieldOff_25_0 : Program.fieldOff Tryd.prog 25 0 = some 0 := by kernel_rfl
@[go_sem] theorem ldk_26 : Program.ldk Tryd.prog 26 = some (some 1) := by kernel_rfl
@[go_sem] theorem cellsOfT_26 : cellsOfT Tryd.prog 26 = some 1 := by kernel_rfl
@[go_sem] theorem zeroC_26 : Program.zeroC Tryd.prog 26 = some [.sl 2 []] := by kernel_rfl
@[go_sem] theorem zeroT_26 : Program.zeroT Tryd.prog 26 = some [.ex 2 []] := by kernel_rfl
@[go_sem] theorem places_26 : Program.places Tryd.prog 26 = some [(0, 1)] := by kernel_rfl
@[go_sem] theorem fieldOff_26_0 : Program.fieldOff Tryd.prog 26 0 = some 0 := by kernel_rfl
@[go_sem] theorem ldk_27 : Program.ldk Tryd.prog 27 = some none := by kernel_rfl
@[go_sem] theorem cellsOfT_27 : cellsOfT Tryd.prog 27 = some 1 := by kernel_rfl
@[go_sem] theorem elemSz_27 : Program.elemSz Tryd.prog 27 = some 1 := by kernel_rfl
@[go_sem] theorem appInfo_27 : appInfo Tryd.prog 27 = some (1, 8) := by kernel_rfl
@[go_sem] theorem zeroC_27 : Program.zeroC Tryd.prog 27 = some [.sl 1 []] := by kernel_rfl
@[go_sem] theorem zeroT_27 : Program.zeroT Tryd.prog 27 = some [.ex 1 []] := by kernel_rfl
@[go_sem] theorem nilT_27 : Program.nilT Tryd.prog 27 = true := by kernel_rfl
attribute [go_sem] Tryd.underlying27
@[go_sem] theorem ldk_28 : Program.ldk Tryd.prog 28 = some none := by kernel_rfl
@[go_sem] theorem cellsOfT_28 : cellsOfT Tryd.prog 28 = some 1 := by kernel_rfl
@[go_sem] theorem elemSz_28 : Program.elemSz Tryd.prog 28 = some 1 := by kernel_rfl
@[go_sem] theorem appInfo_28 : appInfo Tryd.prog 28 = some (1, 24) := by kernel_rfl
@[go_sem] theorem zeroC_28 : Program.zeroC Tryd.prog 28 = some [.sl 1 []] := by kernel_rfl
@[go_sem] theorem zeroT_28 : Program.zeroT Tryd.prog 28 = some [.ex 1 []] := by kernel_rfl
@[go_sem] theorem nilT_28 : Program.nilT Tryd.prog 28 = true := by kernel_rfl
attribute [go_sem] Tryd.underlying28
@[go_sem] theorem ldk_29 : Program.ldk Tryd.prog 29 = some none := by kernel_rfl
@[go_sem] theorem cellsOfT_29 : cellsOfT Tryd.prog 29 = some 1 := by kernel_rfl
@[go_sem] theorem elemSz_29 : Program.elemSz Tryd.prog 29 = some 2 := by kernel_rfl
@[go_sem] theorem appInfo_29 : appInfo Tryd.prog 29 = some (2, 32) := by kernel_rfl
@[go_sem] theorem zeroC_29 : Program.zeroC Tryd.prog 29 = some [.sl 2 []] := by kernel_rfl
@[go_sem] theorem zeroT_29 : Program.zeroT Tryd.prog 29 = some [.ex 2 []] := by kernel_rfl
@[go_sem] theorem nilT_29 : Program.nilT Tryd.prog 29 = true := by kernel_rfl
attribute [go_sem] Tryd.underlying29
@[go_sem] theorem ldk_30 : Program.ldk Tryd.prog 30 = some none := by kernel_rfl
@[go_sem] theorem cellsOfT_30 : cellsOfT Tryd.prog 30 = some 1 := by kernel_rfl
@[go_sem] theorem elemSz_30 : Program.elemSz Tryd.prog 30 = some 2 := by kernel_rfl
@[go_sem] theorem appInfo_30 : appInfo Tryd.prog 30 = some (2, 16) := by kernel_rfl
@[go_sem] theorem zeroC_30 : Program.zeroC Tryd.prog 30 = some [.sl 2 []] := by kernel_rfl
@[go_sem] theorem zeroT_30 : Program.zeroT Tryd.prog 30 = some [.ex 2 []] := by kernel_rfl
@[go_sem] theorem nilT_30 : Program.nilT Tryd.prog 30 = true := by kernel_rfl
attribute [go_sem] Tryd.underlying30
@[go_sem] theorem ldk_31 : Program.ldk Tryd.prog 31 = some none := by kernel_rfl
@[go_sem] theorem cellsOfT_31 : cellsOfT Tryd.prog 31 = some 1 := by kernel_rfl
@[go_sem] theorem elemSz_31 : Program.elemSz Tryd.prog 31 = some 2 := by kernel_rfl
@[go_sem] theorem appInfo_31 : appInfo Tryd.prog 31 = some (2, 16) := by kernel_rfl
@[go_sem] theorem zeroC_31 : Program.zeroC Tryd.prog 31 = some [.sl 2 []] := by kernel_rfl
@[go_sem] theorem zeroT_31 : Program.zeroT Tryd.prog 31 = some [.ex 2 []] := by kernel_rfl
@[go_sem] theorem nilT_31 : Program.nilT Tryd.prog 31 = true := by kernel_rfl
attribute [go_sem] Tryd.underlying31
@[go_sem] theorem ldk_32 : Program.ldk Tryd.prog 32 = some (some 8) := by kernel_rfl
@[go_sem] theorem cellsOfT_32 : cellsOfT Tryd.prog 32 = some 8 := by kernel_rfl
@[go_sem] theorem zeroC_32 : Program.zeroC Tryd.prog 32 = some [.lit (.int .i64 0), .sl 1 [], .lit (.int .i64 0), .sl 1 [], .lit (.int .i64 0), .sl 2 [], .sl 2 [], .sl 2 []] := by kernel_rfl
@[go_sem] theorem zeroT_32 : Program.zeroT Tryd.prog 32 = some [.c (.lit (.int .i64 0)), .ex 1 [], .c (.lit (.int .i64 0)), .ex 1 [], .c (.lit (.int .i64 0)), .ex 2 [], .ex 2 [], .ex 2 []] := by kernel_rfl
@[go_sem] theorem places_32 : Program.places Tryd.prog 32 = some [(0, 1), (1, 1), (2, 1), (3, 1), (4, 1), (5, 1), (6, 1), (7, 1)] := by kernel_rfl
@[go_sem] theorem fieldOff_32_0 : Program.fieldOff Tryd.prog 32 0 = some 0 := by kernel_rfl
@[go_sem] theorem fieldOff_32_1 : Program.fieldOff Tryd.prog 32 1 = some 1 := by kernel_rfl
@[go_sem] theorem fieldOff_32_2 : Program.fieldOff Tryd.prog 32 2 = some 2 := by kernel_rfl
@[go_sem] theorem fieldOff_32_3 : Program.fieldOff Tryd.prog 32 3 = some 3 := by kernel_rfl
@[go_sem] theorem fieldOff_32_4 : Program.fieldOff Tryd.prog 32 4 = some 4 := by kernel_rfl
@[go_sem] theorem fieldOff_32_5 : Program.fieldOff Tryd.prog 32 5 = some 5 := by kernel_rfl
@[go_sem] theorem fieldOff_32_6 : Program.fieldOff Tryd.prog 32 6 = some 6 := by kernel_rfl
@[go_sem] theorem fieldOff_32_7 : Program.fieldOff Tryd.prog 32 7 = some 7 := by kernel_rfl
@[go_sem] theorem ldk_33 : Program.ldk Tryd.prog 33 = some (some 8) := by kernel_rfl
@[go_sem] theorem cellsOfT_33 : cellsOfT Tryd.prog 33 = some 8 := by kernel_rfl
@[go_sem] theorem zeroC_33 : Program.zeroC Tryd.prog 33 = some [.lit (.int .i64 0), .sl 1 [], .lit (.int .i64 0), .sl 1 [], .lit (.int .i64 0), .sl 2 [], .sl 2 [], .sl 2 []] := by kernel_rfl
@[go_sem] theorem zeroT_33 : Program.zeroT Tryd.prog 33 = some [.c (.lit (.int .i64 0)), .ex 1 [], .c (.lit (.int .i64 0)), .ex 1 [], .c (.lit (.int .i64 0)), .ex 2 [], .ex 2 [], .ex 2 []] := by kernel_rfl
@[go_sem] theorem places_33 : Program.places Tryd.prog 33 = some [(0, 1), (1, 1), (2, 1), (3, 1), (4, 1), (5, 1), (6, 1), (7, 1)] := by kernel_rfl
@[go_sem] theorem fieldOff_33_0 : Program.fieldOff Tryd.prog 33 0 = some 0 := by kernel_rfl
@[go_sem] theorem fieldOff_33_1 : Program.fieldOff Tryd.prog 33 1 = some 1 := by kernel_rfl
@[go_sem] theorem fieldOff_33_2 : Program.fieldOff Tryd.prog 33 2 = some 2 := by kernel_rfl
@[go_sem] theorem fieldOff_33_3 : Program.fieldOff Tryd.prog 33 3 = some 3 := by kernel_rfl
@[go_sem] theorem fieldOff_33_4 : Program.fieldOff Tryd.prog 33 4 = some 4 := by kernel_rfl
@[go_sem] theorem fieldOff_33_5 : Program.fieldOff Tryd.prog 33 5 = some 5 := by kernel_rfl
@[go_sem] theorem fieldOff_33_6 : Program.fieldOff Tryd.prog 33 6 = some 6 := by kernel_rfl
@[go_sem] theorem fieldOff_33_7 : Program.fieldOff Tryd.prog 33 7 = some 7 := by kernel_rfl
@[go_sem] theorem ldk_34 : Program.ldk Tryd.prog 34 = some none := by kernel_rfl
@[go_sem] theorem cellsOfT_34 : cellsOfT Tryd.prog 34 = some 1 := by kernel_rfl
@[go_sem] theorem zeroC_34 : Program.zeroC Tryd.prog 34 = some [.lit .nilFunc] := by kernel_rfl
@[go_sem] theorem zeroT_34 : Program.zeroT Tryd.prog 34 = some [.c (.lit .nilFunc)] := by kernel_rfl
attribute [go_sem] Tryd.underlying34
@[go_sem] theorem ldk_35 : Program.ldk Tryd.prog 35 = some none := by kernel_rfl
@[go_sem] theorem cellsOfT_35 : cellsOfT Tryd.prog 35 = some 1 := by kernel_rfl
@[go_sem] theorem zeroC_35 : Program.zeroC Tryd.prog 35 = some [.lit (.int .i64 0)] := by kernel_rfl
@[go_sem] theorem zeroT_35 : Program.zeroT Tryd.prog 35 = some [.c (.lit (.int .i64 0))] := by kernel_rfl
attribute [go_sem] Tryd.underlying35
@[go_sem] theorem ldk_36 : Program.ldk Tryd.prog 36 = some none := by kernel_rfl
@[go_sem] theorem cellsOfT_36 : cellsOfT Tryd.prog 36 = some 1 := by kernel_rfl
@[go_sem] theorem zeroC_36 : Program.zeroC Tryd.prog 36 = some [.lit .nilFunc] := by kernel_rfl
@[go_sem] theorem zeroT_36 : Program.zeroT Tryd.prog 36 = some [.c (.lit .nilFunc)] := by kernel_rfl
attribute [go_sem] Tryd.underlying36
@[go_sem] theorem ldk_37 : Program.ldk Tryd.prog 37 = some none := by kernel_rfl
@[go_sem] theorem cellsOfT_37 : cellsOfT Tryd.prog 37 = some 1 := by kernel_rfl
@[go_sem] theorem zeroC_37 : Program.zeroC Tryd.prog 37 = some [.lit .nilFunc] := by kernel_rfl
@[go_sem] theorem zeroT_37 : Program.zeroT Tryd.prog 37 = some [.c (.lit .nilFunc)] := by kernel_rfl
attribute [go_sem] Tryd.underlying37
@[go_sem] theorem ldk_38 : Program.ldk Tryd.prog 38 = some none := by kernel_rfl
@[go_sem] theorem cellsOfT_38 : cellsOfT Tryd.prog 38 = some 1 := by kernel_rfl
@[go_sem] theorem zeroC_38 : Program.zeroC Tryd.prog 38 = some [.lit .nilFunc] := by kernel_rfl
@[go_sem] theorem zeroT_38 : Program.zeroT Tryd.prog 38 = some [.c (.lit .nilFunc)] := by kernel_rfl
attribute [go_sem] Tryd.underlying38
@[go_sem] theorem ldk_39 : Program.ldk Tryd.prog 39 = some none := by kernel_rfl
@[go_sem] theorem cellsOfT_39 : cellsOfT Tryd.prog 39 = some 1 := by kernel_rfl
@[go_sem] theorem zeroC_39 : Program.zeroC Tryd.prog 39 = some [.lit .nilFunc] := by kernel_rfl
@[go_sem] theorem zeroT_39 : Program.zeroT Tryd.prog 39 = some [.c (.lit .nilFunc)] := by kernel_rfl
attribute [go_sem] Tryd.underlying39
@[go_sem] theorem ldk_40 : Program.ldk Tryd.prog 40 = some none := by kernel_rfl
@[go_sem] theorem cellsOfT_40 : cellsOfT Tryd.prog 40 = some 1 := by kernel_rfl
@[go_sem] theorem zeroC_40 : Program.zeroC Tryd.prog 40 = some [.lit .nilFunc] := by kernel_rfl
@[go_sem] theorem zeroT_40 : Program.zeroT Tryd.prog 40 = some [.c (.lit .nilFunc)] := by kernel_rfl
attribute [go_sem] Tryd.underlying40
@[go_sem] theorem ldk_41 : Program.ldk Tryd.prog 41 = some none := by kernel_rfl
@[go_sem] theorem cellsOfT_41 : cellsOfT Tryd.prog 41 = some 1 := by kernel_rfl
@[go_sem] theorem zeroC_41 : Program.zeroC Tryd.prog 41 = some [.lit .nilFunc] := by kernel_rfl
@[go_sem] theorem zeroT_41 : Program.zeroT Tryd.prog 41 = some [.c (.lit .nilFunc)] := by kernel_rfl
attribute [go_sem] Tryd.underlying41
@[go_sem] theorem ldk_42 : Program.ldk Tryd.prog 42 = some (some 2) := by kernel_rfl
@[go_sem] theorem cellsOfT_42 : cellsOfT Tryd.prog 42 = some 2 := by kernel_rfl
@[go_sem] theorem zeroC_42 : Program.zeroC Tryd.prog 42 = some [.lit (.string ⟨#[]⟩), .lit (.string ⟨#[]⟩)] := by kernel_rfl
@[go_sem] theorem zeroT_42 : Program.zeroT Tryd.prog 42 = some [.c (.lit (.string ⟨#[]⟩)), .c (.lit (.string ⟨#[]⟩))] := by kernel_rfl
@[go_sem] theorem places_42 : Program.places Tryd.prog 42 = some [(0, 1), (1, 1)] := by kernel_rfl
@[go_sem] theorem fieldOff_42_0 : Program.fieldOff Tryd.prog 42 0 = some 0 := by kernel_rfl
@[go_sem] theorem fieldOff_42_1 : Program.fieldOff Tryd.prog 42 1 = some 1 := by kernel_rfl
@[go_sem] theorem ldk_43 : Program.ldk Tryd.prog 43 = some (some 2) := by kernel_rfl
@[go_sem] theorem cellsOfT_43 : cellsOfT Tryd.prog 43 = some 2 := by kernel_rfl
@[go_sem] theorem zeroC_43 : Program.zeroC Tryd.prog 43 = some [.lit (.string ⟨#[]⟩), .lit (.string ⟨#[]⟩)] := by kernel_rfl
@[go_sem] theorem zeroT_43 : Program.zeroT Tryd.prog 43 = some [.c (.lit (.string ⟨#[]⟩)), .c (.lit (.string ⟨#[]⟩))] := by kernel_rfl
@[go_sem] theorem places_43 : Program.places Tryd.prog 43 = some [(0, 1), (1, 1)] := by kernel_rfl
@[go_sem] theorem fieldOff_43_0 : Program.fieldOff Tryd.prog 43 0 = some 0 := by kernel_rfl
@[go_sem] theorem fieldOff_43_1 : Program.fieldOff Tryd.prog 43 1 = some 1 := by kernel_rfl
@[go_sem] theorem ldk_45 : Program.ldk Tryd.prog 45 = some none := by kernel_rfl
@[go_sem] theorem cellsOfT_45 : cellsOfT Tryd.prog 45 = some 1 := by kernel_rfl
@[go_sem] theorem zeroC_45 : Program.zeroC Tryd.prog 45 = some [.lit .nilFunc] := by kernel_rfl
@[go_sem] theorem zeroT_45 : Program.zeroT Tryd.prog 45 = some [.c (.lit .nilFunc)] := by kernel_rfl
attribute [go_sem] Tryd.underlying45
@[go_sem] theorem ldk_46 : Program.ldk Tryd.prog 46 = some none := by kernel_rfl
@[go_sem] theorem cellsOfT_46 : cellsOfT Tryd.prog 46 = some 1 := by kernel_rfl
@[go_sem] theorem zeroC_46 : Program.zeroC Tryd.prog 46 = some [.lit .nilFunc] := by kernel_rfl
@[go_sem] theorem zeroT_46 : Program.zeroT Tryd.prog 46 = some [.c (.lit .nilFunc)] := by kernel_rfl
attribute [go_sem] Tryd.underlying46
@[go_sem] theorem ldk_47 : Program.ldk Tryd.prog 47 = some none := by kernel_rfl
@[go_sem] theorem cellsOfT_47 : cellsOfT Tryd.prog 47 = some 1 := by kernel_rfl
@[go_sem] theorem zeroC_47 : Program.zeroC Tryd.prog 47 = some [.lit .nilFunc] := by kernel_rfl
@[go_sem] theorem zeroT_47 : Program.zeroT Tryd.prog 47 = some [.c (.lit .nilFunc)] := by kernel_rfl
attribute [go_sem] Tryd.underlying47
@[go_sem] theorem ldk_48 : Program.ldk Tryd.prog 48 = some (some 2) := by kernel_rfl
@[go_sem] theorem cellsOfT_48 : cellsOfT Tryd.prog 48 = some 2 := by kernel_rfl
@[go_sem] theorem zeroC_48 : Program.zeroC Tryd.prog 48 = some [.lit (.int .i64 0), .lit (.int .i64 0)] := by kernel_rfl
@[go_sem] theorem zeroT_48 : Program.zeroT Tryd.prog 48 = some [.c (.lit (.int .i64 0)), .c (.lit (.int .i64 0))] := by kernel_rfl
@[go_sem] theorem places_48 : Program.places Tryd.prog 48 = some [(0, 1), (1, 1)] := by kernel_rfl
@[go_sem] theorem fieldOff_48_0 : Program.fieldOff Tryd.prog 48 0 = some 0 := by kernel_rfl
@[go_sem] theorem fieldOff_48_1 : Program.fieldOff Tryd.prog 48 1 = some 1 := by kernel_rfl
@[go_sem] theorem ldk_49 : Program.ldk Tryd.prog 49 = some (some 2) := by kernel_rfl
@[go_sem] theorem cellsOfT_49 : cellsOfT Tryd.prog 49 = some 2 := by kernel_rfl
@[go_sem] theorem zeroC_49 : Program.zeroC Tryd.prog 49 = some [.lit (.int .i64 0), .lit (.int .i64 0)] := by kernel_rfl
@[go_sem] theorem zeroT_49 : Program.zeroT Tryd.prog 49 = some [.c (.lit (.int .i64 0)), .c (.lit (.int .i64 0))] := by kernel_rfl
@[go_sem] theorem places_49 : Program.places Tryd.prog 49 = some [(0, 1), (1, 1)] := by kernel_rfl
@[go_sem] theorem fieldOff_49_0 : Program.fieldOff Tryd.prog 49 0 = some 0 := by kernel_rfl
@[go_sem] theorem fieldOff_49_1 : Program.fieldOff Tryd.prog 49 1 = some 1 := by kernel_rfl
@[go_sem] theorem ldk_50 : Program.ldk Tryd.prog 50 = some (some 4) := by kernel_rfl
@[go_sem] theorem cellsOfT_50 : cellsOfT Tryd.prog 50 = some 4 := by kernel_rfl
@[go_sem] theorem zeroC_50 : Program.zeroC Tryd.prog 50 = some [.lit (.string ⟨#[]⟩), .lit (.string ⟨#[]⟩), .lit (.int .i64 0), .lit (.int .i64 0)] := by kernel_rfl
@[go_sem] theorem zeroT_50 : Program.zeroT Tryd.prog 50 = some [.c (.lit (.string ⟨#[]⟩)), .c (.lit (.string ⟨#[]⟩)), .c (.lit (.int .i64 0)), .c (.lit (.int .i64 0))] := by kernel_rfl
@[go_sem] theorem places_50 : Program.places Tryd.prog 50 = some [(0, 2), (2, 2)] := by kernel_rfl
@[go_sem] theorem fieldOff_50_0 : Program.fieldOff Tryd.prog 50 0 = some 0 := by kernel_rfl
@[go_sem] theorem fieldOff_50_1 : Program.fieldOff Tryd.prog 50 1 = some 2 := by kernel_rfl
@[go_sem] theorem ldk_51 : Program.ldk Tryd.prog 51 = some (some 4) := by kernel_rfl
@[go_sem] theorem cellsOfT_51 : cellsOfT Tryd.prog 51 = some 4 := by kernel_rfl
@[go_sem] theorem zeroC_51 : Program.zeroC Tryd.prog 51 = some [.lit (.string ⟨#[]⟩), .lit (.string ⟨#[]⟩), .lit (.int .i64 0), .lit (.int .i64 0)] := by kernel_rfl
@[go_sem] theorem zeroT_51 : Program.zeroT Tryd.prog 51 = some [.c (.lit (.string ⟨#[]⟩)), .c (.lit (.string ⟨#[]⟩)), .c (.lit (.int .i64 0)), .c (.lit (.int .i64 0))] := by kernel_rfl
@[go_sem] theorem places_51 : Program.places Tryd.prog 51 = some [(0, 2), (2, 2)] := by kernel_rfl
@[go_sem] theorem fieldOff_51_0 : Program.fieldOff Tryd.prog 51 0 = some 0 := by kernel_rfl
@[go_sem] theorem fieldOff_51_1 : Program.fieldOff Tryd.prog 51 1 = some 2 := by kernel_rfl
@[go_sem] theorem ldk_52 : Program.ldk Tryd.prog 52 = some none := by kernel_rfl
@[go_sem] theorem cellsOfT_52 : cellsOfT Tryd.prog 52 = some 1 := by kernel_rfl
@[go_sem] theorem zeroC_52 : Program.zeroC Tryd.prog 52 = some [.lit .nilFunc] := by kernel_rfl
@[go_sem] theorem zeroT_52 : Program.zeroT Tryd.prog 52 = some [.c (.lit .nilFunc)] := by kernel_rfl
attribute [go_sem] Tryd.underlying52
@[go_sem] theorem ldk_53 : Program.ldk Tryd.prog 53 = some none := by kernel_rfl
@[go_sem] theorem cellsOfT_53 : cellsOfT Tryd.prog 53 = some 1 := by kernel_rfl
@[go_sem] theorem zeroC_53 : Program.zeroC Tryd.prog 53 = some [.lit .nilFunc] := by kernel_rfl
@[go_sem] theorem zeroT_53 : Program.zeroT Tryd.prog 53 = some [.c (.lit .nilFunc)] := by kernel_rfl
attribute [go_sem] Tryd.underlying53
@[go_sem] theorem ldk_54 : Program.ldk Tryd.prog 54 = some none := by kernel_rfl
@[go_sem] theorem cellsOfT_54 : cellsOfT Tryd.prog 54 = some 1 := by kernel_rfl
@[go_sem] theorem zeroC_54 : Program.zeroC Tryd.prog 54 = some [.lit .nilFunc] := by kernel_rfl
@[go_sem] theorem zeroT_54 : Program.zeroT Tryd.prog 54 = some [.c (.lit .nilFunc)] := by kernel_rfl
attribute [go_sem] Tryd.underlying54
@[go_sem] theorem ldk_55 : Program.ldk Tryd.prog 55 = some none := by kernel_rfl
@[go_sem] theorem cellsOfT_55 : cellsOfT Tryd.prog 55 = some 1 := by kernel_rfl
@[go_sem] theorem elemSz_55 : Program.elemSz Tryd.prog 55 = some 1 := by kernel_rfl
@[go_sem] theorem appInfo_55 : appInfo Tryd.prog 55 = some (1, 1) := by kernel_rfl
@[go_sem] theorem zeroC_55 : Program.zeroC Tryd.prog 55 = some [.sl 1 []] := by kernel_rfl
@[go_sem] theorem zeroT_55 : Program.zeroT Tryd.prog 55 = some [.ex 1 []] := by kernel_rfl
@[go_sem] theorem nilT_55 : Program.nilT Tryd.prog 55 = true := by kernel_rfl
attribute [go_sem] Tryd.underlying55
@[go_sem] theorem ldk_56 : Program.ldk Tryd.prog 56 = some none := by kernel_rfl
@[go_sem] theorem cellsOfT_56 : cellsOfT Tryd.prog 56 = some 1 := by kernel_rfl
@[go_sem] theorem zeroC_56 : Program.zeroC Tryd.prog 56 = some [.lit .nilFunc] := by kernel_rfl
@[go_sem] theorem zeroT_56 : Program.zeroT Tryd.prog 56 = some [.c (.lit .nilFunc)] := by kernel_rfl
attribute [go_sem] Tryd.underlying56
@[go_sem] theorem ldk_57 : Program.ldk Tryd.prog 57 = some none := by kernel_rfl
@[go_sem] theorem cellsOfT_57 : cellsOfT Tryd.prog 57 = some 1 := by kernel_rfl
@[go_sem] theorem zeroC_57 : Program.zeroC Tryd.prog 57 = some [.lit .nilFunc] := by kernel_rfl
@[go_sem] theorem zeroT_57 : Program.zeroT Tryd.prog 57 = some [.c (.lit .nilFunc)] := by kernel_rfl
attribute [go_sem] Tryd.underlying57
@[go_sem] theorem ldk_58 : Program.ldk Tryd.prog 58 = some none := by kernel_rfl
@[go_sem] theorem cellsOfT_58 : cellsOfT Tryd.prog 58 = some 1 := by kernel_rfl
@[go_sem] theorem zeroC_58 : Program.zeroC Tryd.prog 58 = some [.lit .nilFunc] := by kernel_rfl
@[go_sem] theorem zeroT_58 : Program.zeroT Tryd.prog 58 = some [.c (.lit .nilFunc)] := by kernel_rfl
attribute [go_sem] Tryd.underlying58
@[go_sem] theorem ldk_59 : Program.ldk Tryd.prog 59 = some none := by kernel_rfl
@[go_sem] theorem cellsOfT_59 : cellsOfT Tryd.prog 59 = some 1 := by kernel_rfl
@[go_sem] theorem zeroC_59 : Program.zeroC Tryd.prog 59 = some [.lit .nilFunc] := by kernel_rfl
@[go_sem] theorem zeroT_59 : Program.zeroT Tryd.prog 59 = some [.c (.lit .nilFunc)] := by kernel_rfl
attribute [go_sem] Tryd.underlying59
@[go_sem] theorem ldk_60 : Program.ldk Tryd.prog 60 = some none := by kernel_rfl
@[go_sem] theorem cellsOfT_60 : cellsOfT Tryd.prog 60 = some 1 := by kernel_rfl
@[go_sem] theorem zeroC_60 : Program.zeroC Tryd.prog 60 = some [.lit .nilFunc] := by kernel_rfl
@[go_sem] theorem zeroT_60 : Program.zeroT Tryd.prog 60 = some [.c (.lit .nilFunc)] := by kernel_rfl
attribute [go_sem] Tryd.underlying60
@[go_sem] theorem ldk_62 : Program.ldk Tryd.prog 62 = some none := by kernel_rfl
@[go_sem] theorem cellsOfT_62 : cellsOfT Tryd.prog 62 = some 1 := by kernel_rfl
@[go_sem] theorem zeroC_62 : Program.zeroC Tryd.prog 62 = some [.lit .nilFunc] := by kernel_rfl
@[go_sem] theorem zeroT_62 : Program.zeroT Tryd.prog 62 = some [.c (.lit .nilFunc)] := by kernel_rfl
attribute [go_sem] Tryd.underlying62
@[go_sem] theorem ldk_63 : Program.ldk Tryd.prog 63 = some none := by kernel_rfl
@[go_sem] theorem cellsOfT_63 : cellsOfT Tryd.prog 63 = some 1 := by kernel_rfl
@[go_sem] theorem zeroC_63 : Program.zeroC Tryd.prog 63 = some [.lit .nilFunc] := by kernel_rfl
@[go_sem] theorem zeroT_63 : Program.zeroT Tryd.prog 63 = some [.c (.lit .nilFunc)] := by kernel_rfl
attribute [go_sem] Tryd.underlying63
@[go_sem] theorem ldk_64 : Program.ldk Tryd.prog 64 = some none := by kernel_rfl
@[go_sem] theorem cellsOfT_64 : cellsOfT Tryd.prog 64 = some 1 := by kernel_rfl
@[go_sem] theorem zeroC_64 : Program.zeroC Tryd.prog 64 = some [.lit .nilFunc] := by kernel_rfl
@[go_sem] theorem zeroT_64 : Program.zeroT Tryd.prog 64 = some [.c (.lit .nilFunc)] := by kernel_rfl
attribute [go_sem] Tryd.underlying64
@[go_sem] theorem ldk_65 : Program.ldk Tryd.prog 65 = some none := by kernel_rfl
@[go_sem] theorem cellsOfT_65 : cellsOfT Tryd.prog 65 = some 1 := by kernel_rfl
@[go_sem] theorem zeroC_65 : Program.zeroC Tryd.prog 65 = some [.lit .nilFunc] := by kernel_rfl
@[go_sem] theorem zeroT_65 : Program.zeroT Tryd.prog 65 = some [.c (.lit .nilFunc)] := by kernel_rfl
attribute [go_sem] Tryd.underlying65
@[go_sem] theorem ldk_66 : Program.ldk Tryd.prog 66 = some none := by kernel_rfl
@[go_sem] theorem cellsOfT_66 : cellsOfT Tryd.prog 66 = some 1 := by kernel_rfl
@[go_sem] theorem zeroC_66 : Program.zeroC Tryd.prog 66 = some [.lit .nilFunc] := by kernel_rfl
@[go_sem] theorem zeroT_66 : Program.zeroT Tryd.prog 66 = some [.c (.lit .nilFunc)] := by kernel_rfl
attribute [go_sem] Tryd.underlying66
@[go_sem] theorem ldk_67 : Program.ldk Tryd.prog 67 = some (some 2) := by kernel_rfl
@[go_sem] theorem cellsOfT_67 : cellsOfT Tryd.prog 67 = some 2 := by kernel_rfl
@[go_sem] theorem zeroC_67 : Program.zeroC Tryd.prog 67 = some [.lit (.string ⟨#[]⟩), .lit (.int .i64 0)] := by kernel_rfl
@[go_sem] theorem zeroT_67 : Program.zeroT Tryd.prog 67 = some [.c (.lit (.string ⟨#[]⟩)), .c (.lit (.int .i64 0))] := by kernel_rfl
@[go_sem] theorem places_67 : Program.places Tryd.prog 67 = some [(0, 1), (1, 1)] := by kernel_rfl
@[go_sem] theorem fieldOff_67_0 : Program.fieldOff Tryd.prog 67 0 = some 0 := by kernel_rfl
@[go_sem] theorem fieldOff_67_1 : Program.fieldOff Tryd.prog 67 1 = some 1 := by kernel_rfl
@[go_sem] theorem ldk_68 : Program.ldk Tryd.prog 68 = some (some 2) := by kernel_rfl
@[go_sem] theorem cellsOfT_68 : cellsOfT Tryd.prog 68 = some 2 := by kernel_rfl
@[go_sem] theorem zeroC_68 : Program.zeroC Tryd.prog 68 = some [.lit (.string ⟨#[]⟩), .lit (.int .i64 0)] := by kernel_rfl
@[go_sem] theorem zeroT_68 : Program.zeroT Tryd.prog 68 = some [.c (.lit (.string ⟨#[]⟩)), .c (.lit (.int .i64 0))] := by kernel_rfl
@[go_sem] theorem places_68 : Program.places Tryd.prog 68 = some [(0, 1), (1, 1)] := by kernel_rfl
@[go_sem] theorem fieldOff_68_0 : Program.fieldOff Tryd.prog 68 0 = some 0 := by kernel_rfl
@[go_sem] theorem fieldOff_68_1 : Program.fieldOff Tryd.prog 68 1 = some 1 := by kernel_rfl
@[go_sem] theorem ldk_69 : Program.ldk Tryd.prog 69 = some none := by kernel_rfl
@[go_sem] theorem cellsOfT_69 : cellsOfT Tryd.prog 69 = some 1 := by kernel_rfl
@[go_sem] theorem zeroC_69 : Program.zeroC Tryd.prog 69 = some [.lit .nilFunc] := by kernel_rfl
@[go_sem] theorem zeroT_69 : Program.zeroT Tryd.prog 69 = some [.c (.lit .nilFunc)] := by kernel_rfl
attribute [go_sem] Tryd.underlying69
@[go_sem] theorem ldk_70 : Program.ldk Tryd.prog 70 = some none := by kernel_rfl
@[go_sem] theorem cellsOfT_70 : cellsOfT Tryd.prog 70 = some 1 := by kernel_rfl
@[go_sem] theorem zeroC_70 : Program.zeroC Tryd.prog 70 = some [.lit .nilFunc] := by kernel_rfl
@[go_sem] theorem zeroT_70 : Program.zeroT Tryd.prog 70 = some [.c (.lit .nilFunc)] := by kernel_rfl
attribute [go_sem] Tryd.underlying70
@[go_sem] theorem ldk_71 : Program.ldk Tryd.prog 71 = some none := by kernel_rfl
@[go_sem] theorem cellsOfT_71 : cellsOfT Tryd.prog 71 = some 1 := by kernel_rfl
@[go_sem] theorem zeroC_71 : Program.zeroC Tryd.prog 71 = some [.lit .nilFunc] := by kernel_rfl
@[go_sem] theorem zeroT_71 : Program.zeroT Tryd.prog 71 = some [.c (.lit .nilFunc)] := by kernel_rfl
attribute [go_sem] Tryd.underlying71
@[go_sem] theorem ldk_72 : Program.ldk Tryd.prog 72 = some none := by kernel_rfl
@[go_sem] theorem cellsOfT_72 : cellsOfT Tryd.prog 72 = some 1 := by kernel_rfl
@[go_sem] theorem zeroC_72 : Program.zeroC Tryd.prog 72 = some [.lit .nilFunc] := by kernel_rfl
@[go_sem] theorem zeroT_72 : Program.zeroT Tryd.prog 72 = some [.c (.lit .nilFunc)] := by kernel_rfl
attribute [go_sem] Tryd.underlying72
@[go_sem] theorem ldk_73 : Program.ldk Tryd.prog 73 = some (some 2) := by kernel_rfl
@[go_sem] theorem cellsOfT_73 : cellsOfT Tryd.prog 73 = some 2 := by kernel_rfl
@[go_sem] theorem zeroC_73 : Program.zeroC Tryd.prog 73 = some [.lit (.int .i64 0), .lit (.int .i64 0)] := by kernel_rfl
@[go_sem] theorem zeroT_73 : Program.zeroT Tryd.prog 73 = some [.c (.lit (.int .i64 0)), .c (.lit (.int .i64 0))] := by kernel_rfl
@[go_sem] theorem places_73 : Program.places Tryd.prog 73 = some [(0, 1), (1, 1)] := by kernel_rfl
@[go_sem] theorem fieldOff_73_0 : Program.fieldOff Tryd.prog 73 0 = some 0 := by kernel_rfl
@[go_sem] theorem fieldOff_73_1 : Program.fieldOff Tryd.prog 73 1 = some 1 := by kernel_rfl
@[go_sem] theorem ldk_74 : Program.ldk Tryd.prog 74 = some (some 2) := by kernel_rfl
@[go_sem] theorem cellsOfT_74 : cellsOfT Tryd.prog 74 = some 2 := by kernel_rfl
@[go_sem] theorem zeroC_74 : Program.zeroC Tryd.prog 74 = some [.lit (.int .i64 0), .lit (.int .i64 0)] := by kernel_rfl
@[go_sem] theorem zeroT_74 : Program.zeroT Tryd.prog 74 = some [.c (.lit (.int .i64 0)), .c (.lit (.int .i64 0))] := by kernel_rfl
@[go_sem] theorem places_74 : Program.places Tryd.prog 74 = some [(0, 1), (1, 1)] := by kernel_rfl
@[go_sem] theorem fieldOff_74_0 : Program.fieldOff Tryd.prog 74 0 = some 0 := by kernel_rfl
@[go_sem] theorem fieldOff_74_1 : Program.fieldOff Tryd.prog 74 1 = some 1 := by kernel_rfl
@[go_sem] theorem ldk_75 : Program.ldk Tryd.prog 75 = some none := by kernel_rfl
@[go_sem] theorem cellsOfT_75 : cellsOfT Tryd.prog 75 = some 1 := by kernel_rfl
@[go_sem] theorem zeroC_75 : Program.zeroC Tryd.prog 75 = some [.lit .nilFunc] := by kernel_rfl
@[go_sem] theorem zeroT_75 : Program.zeroT Tryd.prog 75 = some [.c (.lit .nilFunc)] := by kernel_rfl
attribute [go_sem] Tryd.underlying75
@[go_sem] theorem ldk_76 : Program.ldk Tryd.prog 76 = some none := by kernel_rfl
@[go_sem] theorem cellsOfT_76 : cellsOfT Tryd.prog 76 = some 1 := by kernel_rfl
@[go_sem] theorem zeroC_76 : Program.zeroC Tryd.prog 76 = some [.lit .nilFunc] := by kernel_rfl
@[go_sem] theorem zeroT_76 : Program.zeroT Tryd.prog 76 = some [.c (.lit .nilFunc)] := by kernel_rfl
attribute [go_sem] Tryd.underlying76
@[go_sem] theorem ldk_77 : Program.ldk Tryd.prog 77 = some none := by kernel_rfl
@[go_sem] theorem cellsOfT_77 : cellsOfT Tryd.prog 77 = some 1 := by kernel_rfl
@[go_sem] theorem zeroC_77 : Program.zeroC Tryd.prog 77 = some [.lit .nilFunc] := by kernel_rfl
@[go_sem] theorem zeroT_77 : Program.zeroT Tryd.prog 77 = some [.c (.lit .nilFunc)] := by kernel_rfl
attribute [go_sem] Tryd.underlying77
@[go_sem] theorem ldk_78 : Program.ldk Tryd.prog 78 = some none := by kernel_rfl
@[go_sem] theorem cellsOfT_78 : cellsOfT Tryd.prog 78 = some 1 := by kernel_rfl
@[go_sem] theorem zeroC_78 : Program.zeroC Tryd.prog 78 = some [.lit .nilFunc] := by kernel_rfl
@[go_sem] theorem zeroT_78 : Program.zeroT Tryd.prog 78 = some [.c (.lit .nilFunc)] := by kernel_rfl
attribute [go_sem] Tryd.underlying78
@[go_sem] theorem ldk_79 : Program.ldk Tryd.prog 79 = some none := by kernel_rfl
@[go_sem] theorem cellsOfT_79 : cellsOfT Tryd.prog 79 = some 1 := by kernel_rfl
@[go_sem] theorem zeroC_79 : Program.zeroC Tryd.prog 79 = some [.lit .nilFunc] := by kernel_rfl
@[go_sem] theorem zeroT_79 : Program.zeroT Tryd.prog 79 = some [.c (.lit .nilFunc)] := by kernel_rfl
attribute [go_sem] Tryd.underlying79
@[go_sem] theorem ldk_80 : Program.ldk Tryd.prog 80 = some none := by kernel_rfl
@[go_sem] theorem cellsOfT_80 : cellsOfT Tryd.prog 80 = some 1 := by kernel_rfl
@[go_sem] theorem zeroC_80 : Program.zeroC Tryd.prog 80 = some [.lit .nilFunc] := by kernel_rfl
@[go_sem] theorem zeroT_80 : Program.zeroT Tryd.prog 80 = some [.c (.lit .nilFunc)] := by kernel_rfl
attribute [go_sem] Tryd.underlying80
@[go_sem] theorem ldk_81 : Program.ldk Tryd.prog 81 = some none := by kernel_rfl
@[go_sem] theorem cellsOfT_81 : cellsOfT Tryd.prog 81 = some 1 := by kernel_rfl
@[go_sem] theorem zeroC_81 : Program.zeroC Tryd.prog 81 = some [.lit .nilFunc] := by kernel_rfl
@[go_sem] theorem zeroT_81 : Program.zeroT Tryd.prog 81 = some [.c (.lit .nilFunc)] := by kernel_rfl
attribute [go_sem] Tryd.underlying81
@[go_sem] theorem ldk_82 : Program.ldk Tryd.prog 82 = some none := by kernel_rfl
@[go_sem] theorem cellsOfT_82 : cellsOfT Tryd.prog 82 = some 1 := by kernel_rfl
@[go_sem] theorem zeroC_82 : Program.zeroC Tryd.prog 82 = some [.lit .nilFunc] := by kernel_rfl
@[go_sem] theorem zeroT_82 : Program.zeroT Tryd.prog 82 = some [.c (.lit .nilFunc)] := by kernel_rfl
attribute [go_sem] Tryd.underlying82
@[go_sem] theorem ldk_83 : Program.ldk Tryd.prog 83 = some none := by kernel_rfl
@[go_sem] theorem cellsOfT_83 : cellsOfT Tryd.prog 83 = some 1 := by kernel_rfl
@[go_sem] theorem zeroC_83 : Program.zeroC Tryd.prog 83 = some [.lit .nilFunc] := by kernel_rfl
@[go_sem] theorem zeroT_83 : Program.zeroT Tryd.prog 83 = some [.c (.lit .nilFunc)] := by kernel_rfl
attribute [go_sem] Tryd.underlying83
@[go_sem] theorem ldk_84 : Program.ldk Tryd.prog 84 = some none := by kernel_rfl
@[go_sem] theorem cellsOfT_84 : cellsOfT Tryd.prog 84 = some 1 := by kernel_rfl
@[go_sem] theorem zeroC_84 : Program.zeroC Tryd.prog 84 = some [.lit .nilFunc] := by kernel_rfl
@[go_sem] theorem zeroT_84 : Program.zeroT Tryd.prog 84 = some [.c (.lit .nilFunc)] := by kernel_rfl
attribute [go_sem] Tryd.underlying84
@[go_sem] theorem ldk_85 : Program.ldk Tryd.prog 85 = some none := by kernel_rfl
@[go_sem] theorem cellsOfT_85 : cellsOfT Tryd.prog 85 = some 1 := by kernel_rfl
@[go_sem] theorem zeroC_85 : Program.zeroC Tryd.prog 85 = some [.lit .nilFunc] := by kernel_rfl
@[go_sem] theorem zeroT_85 : Program.zeroT Tryd.prog 85 = some [.c (.lit .nilFunc)] := by kernel_rfl
attribute [go_sem] Tryd.underlying85
@[go_sem] theorem ldk_86 : Program.ldk Tryd.prog 86 = some none := by kernel_rfl
@[go_sem] theorem cellsOfT_86 : cellsOfT Tryd.prog 86 = some 1 := by kernel_rfl
@[go_sem] theorem zeroC_86 : Program.zeroC Tryd.prog 86 = some [.lit .nilFunc] := by kernel_rfl
@[go_sem] theorem zeroT_86 : Program.zeroT Tryd.prog 86 = some [.c (.lit .nilFunc)] := by kernel_rfl
attribute [go_sem] Tryd.underlying86
@[go_sem] theorem ldk_87 : Program.ldk Tryd.prog 87 = some none := by kernel_rfl
@[go_sem] theorem cellsOfT_87 : cellsOfT Tryd.prog 87 = some 1 := by kernel_rfl
@[go_sem] theorem zeroC_87 : Program.zeroC Tryd.prog 87 = some [.lit .nilFunc] := by kernel_rfl
@[go_sem] theorem zeroT_87 : Program.zeroT Tryd.prog 87 = some [.c (.lit .nilFunc)] := by kernel_rfl
attribute [go_sem] Tryd.underlying87
@[go_sem] theorem ldk_88 : Program.ldk Tryd.prog 88 = some none := by kernel_rfl
@[go_sem] theorem cellsOfT_88 : cellsOfT Tryd.prog 88 = some 1 := by kernel_rfl
@[go_sem] theorem zeroC_88 : Program.zeroC Tryd.prog 88 = some [.lit .nilFunc] := by kernel_rfl
@[go_sem] theorem zeroT_88 : Program.zeroT Tryd.prog 88 = some [.c (.lit .nilFunc)] := by kernel_rfl
attribute [go_sem] Tryd.underlying88
@[go_sem] theorem ldk_89 : Program.ldk Tryd.prog 89 = some none := by kernel_rfl
@[go_sem] theorem cellsOfT_89 : cellsOfT Tryd.prog 89 = some 1 := by kernel_rfl
@[go_sem] theorem zeroC_89 : Program.zeroC Tryd.prog 89 = some [.lit .nilFunc] := by kernel_rfl
@[go_sem] theorem zeroT_89 : Program.zeroT Tryd.prog 89 = some [.c (.lit .nilFunc)] := by kernel_rfl
attribute [go_sem] Tryd.underlying89
@[go_sem] theorem ldk_90 : Program.ldk Tryd.prog 90 = some none := by kernel_rfl
@[go_sem] theorem cellsOfT_90 : cellsOfT Tryd.prog 90 = some 1 := by kernel_rfl
@[go_sem] theorem zeroC_90 : Program.zeroC Tryd.prog 90 = some [.lit .nilFunc] := by kernel_rfl
@[go_sem] theorem zeroT_90 : Program.zeroT Tryd.prog 90 = some [.c (.lit .nilFunc)] := by kernel_rfl
attribute [go_sem] Tryd.underlying90
@[go_sem] theorem ldk_91 : Program.ldk Tryd.prog 91 = some none := by kernel_rfl
@[go_sem] theorem cellsOfT_91 : cellsOfT Tryd.prog 91 = some 1 := by kernel_rfl
@[go_sem] theorem zeroC_91 : Program.zeroC Tryd.prog 91 = some [.lit .nilFunc] := by kernel_rfl
@[go_sem] theorem zeroT_91 : Program.zeroT Tryd.prog 91 = some [.c (.lit .nilFunc)] := by kernel_rfl
attribute [go_sem] Tryd.underlying91
@[go_sem] theorem ldk_92 : Program.ldk Tryd.prog 92 = some none := by kernel_rfl
@[go_sem] theorem cellsOfT_92 : cellsOfT Tryd.prog 92 = some 1 := by kernel_rfl
@[go_sem] theorem zeroC_92 : Program.zeroC Tryd.prog 92 = some [.lit .nilFunc] := by kernel_rfl
@[go_sem] theorem zeroT_92 : Program.zeroT Tryd.prog 92 = some [.c (.lit .nilFunc)] := by kernel_rfl
attribute [go_sem] Tryd.underlying92
@[go_sem] theorem ldk_93 : Program.ldk Tryd.prog 93 = some none := by kernel_rfl
@[go_sem] theorem cellsOfT_93 : cellsOfT Tryd.prog 93 = some 1 := by kernel_rfl
@[go_sem] theorem zeroC_93 : Program.zeroC Tryd.prog 93 = some [.lit .nilFunc] := by kernel_rfl
@[go_sem] theorem zeroT_93 : Program.zeroT Tryd.prog 93 = some [.c (.lit .nilFunc)] := by kernel_rfl
attribute [go_sem] Tryd.underlying93
@[go_sem] theorem ldk_94 : Program.ldk Tryd.prog 94 = some none := by kernel_rfl
@[go_sem] theorem cellsOfT_94 : cellsOfT Tryd.prog 94 = some 1 := by kernel_rfl
@[go_sem] theorem zeroC_94 : Program.zeroC Tryd.prog 94 = some [.lit .nilFunc] := by kernel_rfl
@[go_sem] theorem zeroT_94 : Program.zeroT Tryd.prog 94 = some [.c (.lit .nilFunc)] := by kernel_rfl
attribute [go_sem] Tryd.underlying94
@[go_sem] theorem ldk_95 : Program.ldk Tryd.prog 95 = some none := by kernel_rfl
@[go_sem] theorem cellsOfT_95 : cellsOfT Tryd.prog 95 = some 1 := by kernel_rfl
@[go_sem] theorem zeroC_95 : Program.zeroC Tryd.prog 95 = some [.lit .nilFunc] := by kernel_rfl
@[go_sem] theorem zeroT_95 : Program.zeroT Tryd.prog 95 = some [.c (.lit .nilFunc)] := by kernel_rfl
attribute [go_sem] Tryd.underlying95
@[go_sem] theorem ldk_96 : Program.ldk Tryd.prog 96 = some none := by kernel_rfl
@[go_sem] theorem cellsOfT_96 : cellsOfT Tryd.prog 96 = some 1 := by kernel_rfl
@[go_sem] theorem zeroC_96 : Program.zeroC Tryd.prog 96 = some [.lit .nilFunc] := by kernel_rfl
@[go_sem] theorem zeroT_96 : Program.zeroT Tryd.prog 96 = some [.c (.lit .nilFunc)] := by kernel_rfl
attribute [go_sem] Tryd.underlying96
@[go_sem] theorem ldk_97 : Program.ldk Tryd.prog 97 = some none := by kernel_rfl
@[go_sem] theorem cellsOfT_97 : cellsOfT Tryd.prog 97 = some 1 := by kernel_rfl
@[go_sem] theorem zeroC_97 : Program.zeroC Tryd.prog 97 = some [.lit .nilFunc] := by kernel_rfl
@[go_sem] theorem zeroT_97 : Program.zeroT Tryd.prog 97 = some [.c (.lit .nilFunc)] := by kernel_rfl
attribute [go_sem] Tryd.underlying97
@[go_sem] theorem ldk_98 : Program.ldk Tryd.prog 98 = some none := by kernel_rfl
@[go_sem] theorem cellsOfT_98 : cellsOfT Tryd.prog 98 = some 1 := by kernel_rfl
@[go_sem] theorem zeroC_98 : Program.zeroC Tryd.prog 98 = some [.lit .nilFunc] := by kernel_rfl
@[go_sem] theorem zeroT_98 : Program.zeroT Tryd.prog 98 = some [.c (.lit .nilFunc)] := by kernel_rfl
attribute [go_sem] Tryd.underlying98
@[go_sem] theorem ldk_99 : Program.ldk Tryd.prog 99 = some none := by kernel_rfl
@[go_sem] theorem cellsOfT_99 : cellsOfT Tryd.prog 99 = some 1 := by kernel_rfl
@[go_sem] theorem zeroC_99 : Program.zeroC Tryd.prog 99 = some [.lit .nilFunc] := by kernel_rfl
@[go_sem] theorem zeroT_99 : Program.zeroT Tryd.prog 99 = some [.c (.lit .nilFunc)] := by kernel_rfl
attribute [go_sem] Tryd.underlying99
@[go_sem] theorem ldk_101 : Program.ldk Tryd.prog 101 = some none := by kernel_rfl
@[go_sem] theorem cellsOfT_101 : cellsOfT Tryd.prog 101 = some 1 := by kernel_rfl
@[go_sem] theorem zeroC_101 : Program.zeroC Tryd.prog 101 = some [.lit .nilFunc] := by kernel_rfl
@[go_sem] theorem zeroT_101 : Program.zeroT Tryd.prog 101 = some [.c (.lit .nilFunc)] := by kernel_rfl
attribute [go_sem] Tryd.underlying101
@[go_sem] theorem ldk_102 : Program.ldk Tryd.prog 102 = some none := by kernel_rfl
@[go_sem] theorem cellsOfT_102 : cellsOfT Tryd.prog 102 = some 1 := by kernel_rfl
@[go_sem] theorem zeroC_102 : Program.zeroC Tryd.prog 102 = some [.lit .nilFunc] := by kernel_rfl
@[go_sem] theorem zeroT_102 : Program.zeroT Tryd.prog 102 = some [.c (.lit .nilFunc)] := by kernel_rfl
attribute [go_sem] Tryd.underlying102
@[go_sem] theorem ldk_103 : Program.ldk Tryd.prog 103 = some none := by kernel_rfl
@[go_sem] theorem cellsOfT_103 : cellsOfT Tryd.prog 103 = some 1 := by kernel_rfl
@[go_sem] theorem zeroC_103 : Program.zeroC Tryd.prog 103 = some [.lit .nilFunc] := by kernel_rfl
@[go_sem] theorem zeroT_103 : Program.zeroT Tryd.prog 103 = some [.c (.lit .nilFunc)] := by kernel_rfl
attribute [go_sem] Tryd.underlying103
@[go_sem] theorem ldk_104 : Program.ldk Tryd.prog 104 = some (some 256) := by kernel_rfl
@[go_sem] theorem cellsOfT_104 : cellsOfT Tryd.prog 104 = some 256 := by kernel_rfl
@[go_sem] theorem ldk_105 : Program.ldk Tryd.prog 105 = some (some 256) := by kernel_rfl
@[go_sem] theorem cellsOfT_105 : cellsOfT Tryd.prog 105 = some 256 := by kernel_rfl
@[go_sem] theorem ldk_107 : Program.ldk Tryd.prog 107 = some none := by kernel_rfl
@[go_sem] theorem cellsOfT_107 : cellsOfT Tryd.prog 107 = some 1 := by kernel_rfl
@[go_sem] theorem zeroC_107 : Program.zeroC Tryd.prog 107 = some [.lit .nilFunc] := by kernel_rfl
@[go_sem] theorem zeroT_107 : Program.zeroT Tryd.prog 107 = some [.c (.lit .nilFunc)] := by kernel_rfl
attribute [go_sem] Tryd.underlying107
@[go_sem] theorem ldk_109 : Program.ldk Tryd.prog 109 = some none := by kernel_rfl
@[go_sem] theorem cellsOfT_109 : cellsOfT Tryd.prog 109 = some 1 := by kernel_rfl
@[go_sem] theorem zeroC_109 : Program.zeroC Tryd.prog 109 = some [.lit .nilFunc] := by kernel_rfl
@[go_sem] theorem zeroT_109 : Program.zeroT Tryd.prog 109 = some [.c (.lit .nilFunc)] := by kernel_rfl
attribute [go_sem] Tryd.underlying109
@[go_sem] theorem ldk_110 : Program.ldk Tryd.prog 110 = some none := by kernel_rfl
@[go_sem] theorem cellsOfT_110 : cellsOfT Tryd.prog 110 = some 1 := by kernel_rfl
@[go_sem] theorem zeroC_110 : Program.zeroC Tryd.prog 110 = some [.lit .nilFunc] := by kernel_rfl
@[go_sem] theorem zeroT_110 : Program.zeroT Tryd.prog 110 = some [.c (.lit .nilFunc)] := by kernel_rfl
attribute [go_sem] Tryd.underlying110
@[go_sem] theorem ldk_111 : Program.ldk Tryd.prog 111 = some (some 256) := by kernel_rfl
@[go_sem] theorem cellsOfT_111 : cellsOfT Tryd.prog 111 = some 256 := by kernel_rfl
@[go_sem] theorem ldk_112 : Program.ldk Tryd.prog 112 = some (some 2) := by kernel_rfl
@[go_sem] theorem cellsOfT_112 : cellsOfT Tryd.prog 112 = some 2 := by kernel_rfl
@[go_sem] theorem zeroC_112 : Program.zeroC Tryd.prog 112 = some [.lit (.int .u8 0), .lit (.int .u8 0)] := by kernel_rfl
@[go_sem] theorem zeroT_112 : Program.zeroT Tryd.prog 112 = some [.c (.lit (.int .u8 0)), .c (.lit (.int .u8 0))] := by kernel_rfl
@[go_sem] theorem places_112 : Program.places Tryd.prog 112 = some [(0, 1), (1, 1)] := by kernel_rfl
@[go_sem] theorem fieldOff_112_0 : Program.fieldOff Tryd.prog 112 0 = some 0 := by kernel_rfl
@[go_sem] theorem fieldOff_112_1 : Program.fieldOff Tryd.prog 112 1 = some 1 := by kernel_rfl
@[go_sem] theorem ldk_113 : Program.ldk Tryd.prog 113 = some (some 2) := by kernel_rfl
@[go_sem] theorem cellsOfT_113 : cellsOfT Tryd.prog 113 = some 2 := by kernel_rfl
@[go_sem] theorem zeroC_113 : Program.zeroC Tryd.prog 113 = some [.lit (.int .u8 0), .lit (.int .u8 0)] := by kernel_rfl
@[go_sem] theorem zeroT_113 : Program.zeroT Tryd.prog 113 = some [.c (.lit (.int .u8 0)), .c (.lit (.int .u8 0))] := by kernel_rfl
@[go_sem] theorem places_113 : Program.places Tryd.prog 113 = some [(0, 1), (1, 1)] := by kernel_rfl
@[go_sem] theorem fieldOff_113_0 : Program.fieldOff Tryd.prog 113 0 = some 0 := by kernel_rfl
@[go_sem] theorem fieldOff_113_1 : Program.fieldOff Tryd.prog 113 1 = some 1 := by kernel_rfl
@[go_sem] theorem ldk_114 : Program.ldk Tryd.prog 114 = some (some 32) := by kernel_rfl
@[go_sem] theorem cellsOfT_114 : cellsOfT Tryd.prog 114 = some 32 := by kernel_rfl
@[go_sem] theorem zeroC_114 : Program.zeroC Tryd.prog 114 = some [.lit (.int .u8 0), .lit (.int .u8 0), .lit (.int .u8 0), .lit (.int .u8 0), .lit (.int .u8 0), .lit (.int .u8 0), .lit (.int .u8 0), .lit (.int .u8 0), .lit (.int .u8 0), .lit (.int .u8 0), .lit (.int .u8 0), .lit (.int .u8 0), .lit (.int .u8 0), .lit (.int .u8 0), .lit (.int .u8 0), .lit (.int .u8 0), .lit (.int .u8 0), .lit (.int .u8 0), .lit (.int .u8 0), .lit (.int .u8 0), .lit (.int .u8 0), .lit (.int .u8 0), .lit (.int .u8 0), .lit (.int .u8 0), .lit (.int .u8 0), .lit (.int .u8 0), .lit (.int .u8 0), .lit (.int .u8 0), .lit (.int .u8 0), .lit (.int .u8 0), .lit (.int .u8 0), .lit (.int .u8 0)] := by kernel_rfl
@[go_sem] theorem zeroT_114 : Program.zeroT Tryd.prog 114 = some [.c (.lit (.int .u8 0)), .c (.lit (.int .u8 0)), .c (.lit (.int .u8 0)), .c (.lit (.int .u8 0)), .c (.lit (.int .u8 0)), .c (.lit (.int .u8 0)), .c (.lit (.int .u8 0)), .c (.lit (.int .u8 0)), .c (.lit (.int .u8 0)), .c (.lit (.int .u8 0)), .c (.lit (.int .u8 0)), .c (.lit (.int .u8 0)), .c (.lit (.int .u8 0)), .c (.lit (.int .u8 0)), .c (.lit (.int .u8 0)), .c (.lit (.int .u8 0)), .c (.lit (.int .u8 0)), .c (.lit (.int .u8 0)), .c (.lit (.int .u8 0)), .c (.lit (.int .u8 0)), .c (.lit (.int .u8 0)), .c (.lit (.int .u8 0)), .c (.lit (.int .u8 0)), .c (.lit (.int .u8 0)), .c (.lit (.int .u8 0)), .c (.lit (.int .u8 0)), .c (.lit (.int .u8 0)), .c (.lit (.int .u8 0)), .c (.lit (.int .u8 0)), .c (.lit (.int .u8 0)), .c (.lit (.int .u8 0)), .c (.lit (.int .u8 0))] := by kernel_rfl
@[go_sem] theorem ldk_115 : Program.ldk Tryd.prog 115 = some none := by kernel_rfl
@[go_sem] theorem cellsOfT_115 : cellsOfT Tryd.prog 115 = some 1 := by kernel_rfl
@[go_sem] theorem zeroC_115 : Program.zeroC Tryd.prog 115 = some [.lit (.int .u64 0)] := by kernel_rfl
@[go_sem] theorem zeroT_115 : Program.zeroT Tryd.prog 115 = some [.c (.lit (.int .u64 0))] := by kernel_rfl
attribute [go_sem] Tryd.underlying115
@[go_sem] theorem ldk_116 : Program.ldk Tryd.prog 116 = some none := by kernel_rfl
@[go_sem] theorem cellsOfT_116 : cellsOfT Tryd.prog 116 = some 1 := by kernel_rfl
@[go_sem] theorem zeroC_116 : Program.zeroC Tryd.prog 116 = some [.lit .nilFunc] := by kernel_rfl
@[go_sem] theorem zeroT_116 : Program.zeroT Tryd.prog 116 = some [.c (.lit .nilFunc)] := by kernel_rfl
attribute [go_sem] Tryd.underlying116
@[go_sem] theorem ldk_117 : Program.ldk Tryd.prog 117 = some none := by kernel_rfl
@[go_sem] theorem cellsOfT_117 : cellsOfT Tryd.prog 117 = some 1 := by kernel_rfl
@[go_sem] theorem zeroC_117 : Program.zeroC Tryd.prog 117 = some [.lit .nilFunc] := by kernel_rfl
@[go_sem] theorem zeroT_117 : Program.zeroT Tryd.prog 117 = some [.c (.lit .nilFunc)] := by kernel_rfl
attribute [go_sem] Tryd.underlying117
@[go_sem] theorem ldk_118 : Program.ldk Tryd.prog 118 = some none := by kernel_rfl
@[go_sem] theorem cellsOfT_118 : cellsOfT Tryd.prog 118 = some 1 := by kernel_rfl
@[go_sem] theorem zeroC_118 : Program.zeroC Tryd.prog 118 = some [.lit .nilFunc] := by kernel_rfl
@[go_sem] theorem zeroT_118 : Program.zeroT Tryd.prog 118 = some [.c (.lit .nilFunc)] := by kernel_rfl
attribute [go_sem] Tryd.underlying118
@[go_sem] theorem ldk_119 : Program.ldk Tryd.prog 119 = some none := by kernel_rfl
@[go_sem] theorem cellsOfT_119 : cellsOfT Tryd.prog 119 = some 1 := by kernel_rfl
@[go_sem] theorem zeroC_119 : Program.zeroC Tryd.prog 119 = some [.lit .nilFunc] := by kernel_rfl
@[go_sem] theorem zeroT_119 : Program.zeroT Tryd.prog 119 = some [.c (.lit .nilFunc)] := by kernel_rfl
attribute [go_sem] Tryd.underlying119
@[go_sem] theorem ldk_120 : Program.ldk Tryd.prog 120 = some none := by kernel_rfl
@[go_sem] theorem cellsOfT_120 : cellsOfT Tryd.prog 120 = some 1 := by kernel_rfl
@[go_sem] theorem zeroC_120 : Program.zeroC Tryd.prog 120 = some [.lit .nilFunc] := by kernel_rfl
@[go_sem] theorem zeroT_120 : Program.zeroT Tryd.prog 120 = some [.c (.lit .nilFunc)] := by kernel_rfl
attribute [go_sem] Tryd.underlying120
@[go_sem] theorem ldk_121 : Program.ldk Tryd.prog 121 = some none := by kernel_rfl
@[go_sem] theorem cellsOfT_121 : cellsOfT Tryd.prog 121 = some 1 := by kernel_rfl
@[go_sem] theorem zeroC_121 : Program.zeroC Tryd.prog 121 = some [.lit .nilFunc] := by kernel_rfl
@[go_sem] theorem zeroT_121 : Program.zeroT Tryd.prog 121 = some [.c (.lit .nilFunc)] := by kernel_rfl
attribute [go_sem] Tryd.underlying121
@[go_sem] theorem ldk_122 : Program.ldk Tryd.prog 122 = some none := by kernel_rfl
@[go_sem] theorem cellsOfT_122 : cellsOfT Tryd.prog 122 = some 1 := by kernel_rfl
@[go_sem] theorem zeroC_122 : Program.zeroC Tryd.prog 122 = some [.lit .nilFunc] := by kernel_rfl
@[go_sem] theorem zeroT_122 : Program.zeroT Tryd.prog 122 = some [.c (.lit .nilFunc)] := by kernel_rfl
attribute [go_sem] Tryd.underlying122
@[go_sem] theorem ldk_123 : Program.ldk Tryd.prog 123 = some none := by kernel_rfl
@[go_sem] theorem cellsOfT_123 : cellsOfT Tryd.prog 123 = some 1 := by kernel_rfl
@[go_sem] theorem zeroC_123 : Program.zeroC Tryd.prog 123 = some [.lit (.pointer none)] := by kernel_rfl
@[go_sem] theorem zeroT_123 : Program.zeroT Tryd.prog 123 = some [.c (.lit (.pointer none))] := by kernel_rfl
attribute [go_sem] Tryd.underlying123
@[go_sem] theorem ldk_124 : Program.ldk Tryd.prog 124 = some none := by kernel_rfl
@[go_sem] theorem cellsOfT_124 : cellsOfT Tryd.prog 124 = some 1 := by kernel_rfl
@[go_sem] theorem zeroC_124 : Program.zeroC Tryd.prog 124 = some [.lit .nilFunc] := by kernel_rfl
@[go_sem] theorem zeroT_124 : Program.zeroT Tryd.prog 124 = some [.c (.lit .nilFunc)] := by kernel_rfl
attribute [go_sem] Tryd.underlying124
@[go_sem] theorem ldk_125 : Program.ldk Tryd.prog 125 = some none := by kernel_rfl
@[go_sem] theorem cellsOfT_125 : cellsOfT Tryd.prog 125 = some 1 := by kernel_rfl
@[go_sem] theorem zeroC_125 : Program.zeroC Tryd.prog 125 = some [.lit (.int .u64 0)] := by kernel_rfl
@[go_sem] theorem zeroT_125 : Program.zeroT Tryd.prog 125 = some [.c (.lit (.int .u64 0))] := by kernel_rfl
attribute [go_sem] Tryd.underlying125
@[go_sem] theorem ldk_126 : Program.ldk Tryd.prog 126 = some none := by kernel_rfl
@[go_sem] theorem cellsOfT_126 : cellsOfT Tryd.prog 126 = some 1 := by kernel_rfl
@[go_sem] theorem zeroC_126 : Program.zeroC Tryd.prog 126 = some [.lit .nilFunc] := by kernel_rfl
@[go_sem] theorem zeroT_126 : Program.zeroT Tryd.prog 126 = some [.c (.lit .nilFunc)] := by kernel_rfl
attribute [go_sem] Tryd.underlying126
@[go_sem] theorem ldk_127 : Program.ldk Tryd.prog 127 = some none := by kernel_rfl
@[go_sem] theorem cellsOfT_127 : cellsOfT Tryd.prog 127 = some 1 := by kernel_rfl
@[go_sem] theorem zeroC_127 : Program.zeroC Tryd.prog 127 = some [.lit .nilFunc] := by kernel_rfl
@[go_sem] theorem zeroT_127 : Program.zeroT Tryd.prog 127 = some [.c (.lit .nilFunc)] := by kernel_rfl
attribute [go_sem] Tryd.underlying127
@[go_sem] theorem ldk_128 : Program.ldk Tryd.prog 128 = some none := by kernel_rfl
@[go_sem] theorem cellsOfT_128 : cellsOfT Tryd.prog 128 = some 1 := by kernel_rfl
@[go_sem] theorem zeroC_128 : Program.zeroC Tryd.prog 128 = some [.lit .nilFunc] := by kernel_rfl
@[go_sem] theorem zeroT_128 : Program.zeroT Tryd.prog 128 = some [.c (.lit .nilFunc)] := by kernel_rfl
attribute [go_sem] Tryd.underlying128
@[go_sem] theorem ldk_129 : Program.ldk Tryd.prog 129 = some (some 4) := by kernel_rfl
@[go_sem] theorem cellsOfT_129 : cellsOfT Tryd.prog 129 = some 4 := by kernel_rfl
@[go_sem] theorem zeroC_129 : Program.zeroC Tryd.prog 129 = some [.lit (.pointer none), .lit (.pointer none), .lit (.pointer none), .lit (.string ⟨#[]⟩)] := by kernel_rfl
@[go_sem] theorem zeroT_129 : Program.zeroT Tryd.prog 129 = some [.c (.lit (.pointer none)), .c (.lit (.pointer none)), .c (.lit (.pointer none)), .c (.lit (.string ⟨#[]⟩))] := by kernel_rfl
@[go_sem] theorem places_129 : Program.places Tryd.prog 129 = some [(0, 1), (1, 1), (2, 1), (3, 1)] := by kernel_rfl
@[go_sem] theorem fieldOff_129_0 : Program.fieldOff Tryd.prog 129 0 = some 0 := by kernel_rfl
@[go_sem] theorem fieldOff_129_1 : Program.fieldOff Tryd.prog 129 1 = some 1 := by kernel_rfl
@[go_sem] theorem fieldOff_129_2 : Program.fieldOff Tryd.prog 129 2 = some 2 := by kernel_rfl
@[go_sem] theorem fieldOff_129_3 : Program.fieldOff Tryd.prog 129 3 = some 3 := by kernel_rfl
@[go_sem] theorem ldk_131 : Program.ldk Tryd.prog 131 = some (some 0) := by kernel_rfl
@[go_sem] theorem cellsOfT_131 : cellsOfT Tryd.prog 131 = some 0 := by kernel_rfl
@[go_sem] theorem zeroC_131 : Program.zeroC Tryd.prog 131 = some [] := by kernel_rfl
@[go_sem] theorem zeroT_131 : Program.zeroT Tryd.prog 131 = some [] := by kernel_rfl
@[go_sem] theorem ldk_132 : Program.ldk Tryd.prog 132 = some (some 0) := by kernel_rfl
@[go_sem] theorem cellsOfT_132 : cellsOfT Tryd.prog 132 = some 0 := by kernel_rfl
@[go_sem] theorem zeroC_132 : Program.zeroC Tryd.prog 132 = some [] := by kernel_rfl
@[go_sem] theorem zeroT_132 : Program.zeroT Tryd.prog 132 = some [] := by kernel_rfl
@[go_sem] theorem places_132 : Program.places Tryd.prog 132 = some [(0, 0)] := by kernel_rfl
@[go_sem] theorem ldk_134 : Program.ldk Tryd.prog 134 = some none := by kernel_rfl
@[go_sem] theorem cellsOfT_134 : cellsOfT Tryd.prog 134 = some 1 := by kernel_rfl
@[go_sem] theorem zeroC_134 : Program.zeroC Tryd.prog 134 = some [.lit .nilFunc] := by kernel_rfl
@[go_sem] theorem zeroT_134 : Program.zeroT Tryd.prog 134 = some [.c (.lit .nilFunc)] := by kernel_rfl
attribute [go_sem] Tryd.underlying134
@[go_sem] theorem ldk_135 : Program.ldk Tryd.prog 135 = some none := by kernel_rfl
@[go_sem] theorem cellsOfT_135 : cellsOfT Tryd.prog 135 = some 1 := by kernel_rfl
@[go_sem] theorem zeroC_135 : Program.zeroC Tryd.prog 135 = some [.lit (.int .u32 0)] := by kernel_rfl
@[go_sem] theorem zeroT_135 : Program.zeroT Tryd.prog 135 = some [.c (.lit (.int .u32 0))] := by kernel_rfl
attribute [go_sem] Tryd.underlying135
@[go_sem] theorem ldk_138 : Program.ldk Tryd.prog 138 = some none := by kernel_rfl
@[go_sem] theorem cellsOfT_138 : cellsOfT Tryd.prog 138 = some 1 := by kernel_rfl
@[go_sem] theorem zeroC_138 : Program.zeroC Tryd.prog 138 = some [.lit .nilFunc] := by kernel_rfl
@[go_sem] theorem zeroT_138 : Program.zeroT Tryd.prog 138 = some [.c (.lit .nilFunc)] := by kernel_rfl
attribute [go_sem] Tryd.underlying138
@[go_sem] theorem ldk_139 : Program.ldk Tryd.prog 139 = some none := by kernel_rfl
@[go_sem] theorem cellsOfT_139 : cellsOfT Tryd.prog 139 = some 1 := by kernel_rfl
@[go_sem] theorem zeroC_139 : Program.zeroC Tryd.prog 139 = some [.lit (.pointer none)] := by kernel_rfl
@[go_sem] theorem zeroT_139 : Program.zeroT Tryd.prog 139 = some [.c (.lit (.pointer none))] := by kernel_rfl
attribute [go_sem] Tryd.underlying139
@[go_sem] theorem ldk_142 : Program.ldk Tryd.prog 142 = some (some 11) := by kernel_rfl
@[go_sem] theorem cellsOfT_142 : cellsOfT Tryd.prog 142 = some 11 := by kernel_rfl
@[go_sem] theorem zeroC_142 : Program.zeroC Tryd.prog 142 = some [.lit (.int .u64 0), .lit (.int .u64 0), .lit (.int .u32 0), .lit (.int .u8 0), .lit (.int .u8 0), .lit (.int .u8 0), .lit (.int .u8 0), .lit .nilFunc, .lit (.pointer none), .lit (.int .i32 0), .lit (.int .i32 0)] := by kernel_rfl
@[go_sem] theorem zeroT_142 : Program.zeroT Tryd.prog 142 = some [.c (.lit (.int .u64 0)), .c (.lit (.int .u64 0)), .c (.lit (.int .u32 0)), .c (.lit (.int .u8 0)), .c (.lit (.int .u8 0)), .c (.lit (.int .u8 0)), .c (.lit (.int .u8 0)), .c (.lit .nilFunc), .c (.lit (.pointer none)), .c (.lit (.int .i32 0)), .c (.lit (.int .i32 0))] := by kernel_rfl
@[go_sem] theorem places_142 : Program.places Tryd.prog 142 = some [(0, 1), (1, 1), (2, 1), (3, 1), (4, 1), (5, 1), (6, 1), (7, 1), (8, 1), (9, 1), (10, 1)] := by kernel_rfl
@[go_sem] theorem fieldOff_142_0 : Program.fieldOff Tryd.prog 142 0 = some 0 := by kernel_rfl
@[go_sem] theorem fieldOff_142_1 : Program.fieldOff Tryd.prog 142 1 = some 1 := by kernel_rfl
@[go_sem] theorem fieldOff_142_2 : Program.fieldOff Tryd.prog 142 2 = some 2 := by kernel_rfl
@[go_sem] theorem fieldOff_142_3 : Program.fieldOff Tryd.prog 142 3 = some 3 := by kernel_rfl
@[go_sem] theorem fieldOff_142_4 : Program.fieldOff Tryd.prog 142 4 = some 4 := by kernel_rfl
@[go_sem] theorem fieldOff_142_5 : Program.fieldOff Tryd.prog 142 5 = some 5 := by kernel_rfl
@[go_sem] theorem fieldOff_142_6 : Program.fieldOff Tryd.prog 142 6 = some 6 := by kernel_rfl
@[go_sem] theorem fieldOff_142_7 : Program.fieldOff Tryd.prog 142 7 = some 7 := by kernel_rfl
@[go_sem] theorem fieldOff_142_8 : Program.fieldOff Tryd.prog 142 8 = some 8 := by kernel_rfl
@[go_sem] theorem fieldOff_142_9 : Program.fieldOff Tryd.prog 142 9 = some 9 := by kernel_rfl
@[go_sem] theorem fieldOff_142_10 : Program.fieldOff Tryd.prog 142 10 = some 10 := by kernel_rfl
@[go_sem] theorem ldk_144 : Program.ldk Tryd.prog 144 = some none := by kernel_rfl
@[go_sem] theorem cellsOfT_144 : cellsOfT Tryd.prog 144 = some 1 := by kernel_rfl
@[go_sem] theorem eqGuard_42 : Tryd.prog.eqGuardType Tryd.prog.depth 42 = false := by kernel_rfl
@[go_sem] theorem eqT_42 (a0 b0 : ByteArray) (a1 b1 : ByteArray) : eqT Tryd.prog 8 42 (.agg [.c (.lit (.string a0)), .c (.lit (.string a1))]) (.agg [.c (.lit (.string b0)), .c (.lit (.string b1))]) = some ((a0 == b0) && ((a1 == b1) && true)) := by kernel_rfl
@[go_sem] theorem eqGuard_43 : Tryd.prog.eqGuardType Tryd.prog.depth 43 = false := by kernel_rfl
@[go_sem] theorem eqT_43 (a0 b0 : ByteArray) (a1 b1 : ByteArray) : eqT Tryd.prog 8 43 (.agg [.c (.lit (.string a0)), .c (.lit (.string a1))]) (.agg [.c (.lit (.string b0)), .c (.lit (.string b1))]) = some ((a0 == b0) && ((a1 == b1) && true)) := by kernel_rfl
@[go_sem] theorem eqGuard_48 : Tryd.prog.eqGuardType Tryd.prog.depth 48 = false := by kernel_rfl
@[go_sem] theorem eqT_48 (a0 b0 : Int) (a1 b1 : Int) : eqT Tryd.prog 8 48 (.agg [.c (.lit (.int .i64 a0)), .c (.lit (.int .i64 a1))]) (.agg [.c (.lit (.int .i64 b0)), .c (.lit (.int .i64 b1))]) = some ((a0 == b0) && ((a1 == b1) && true)) := by kernel_rfl
@[go_sem] theorem eqGuard_49 : Tryd.prog.eqGuardType Tryd.prog.depth 49 = false := by kernel_rfl
@[go_sem] theorem eqT_49 (a0 b0 : Int) (a1 b1 : Int) : eqT Tryd.prog 8 49 (.agg [.c (.lit (.int .i64 a0)), .c (.lit (.int .i64 a1))]) (.agg [.c (.lit (.int .i64 b0)), .c (.lit (.int .i64 b1))]) = some ((a0 == b0) && ((a1 == b1) && true)) := by kernel_rfl
@[go_sem] theorem eqGuard_50 : Tryd.prog.eqGuardType Tryd.prog.depth 50 = false := by kernel_rfl
@[go_sem] theorem eqT_50 (a0 b0 : ByteArray) (a1 b1 : ByteArray) (a2 b2 : Int) (a3 b3 : Int) : eqT Tryd.prog 8 50 (.agg [.c (.lit (.string a0)), .c (.lit (.string a1)), .c (.lit (.int .i64 a2)), .c (.lit (.int .i64 a3))]) (.agg [.c (.lit (.string b0)), .c (.lit (.string b1)), .c (.lit (.int .i64 b2)), .c (.lit (.int .i64 b3))]) = some (((a0 == b0) && ((a1 == b1) && true)) && (((a2 == b2) && ((a3 == b3) && true)) && true)) := by kernel_rfl
@[go_sem] theorem eqGuard_51 : Tryd.prog.eqGuardType Tryd.prog.depth 51 = false := by kernel_rfl
@[go_sem] theorem eqT_51 (a0 b0 : ByteArray) (a1 b1 : ByteArray) (a2 b2 : Int) (a3 b3 : Int) : eqT Tryd.prog 8 51 (.agg [.c (.lit (.string a0)), .c (.lit (.string a1)), .c (.lit (.int .i64 a2)), .c (.lit (.int .i64 a3))]) (.agg [.c (.lit (.string b0)), .c (.lit (.string b1)), .c (.lit (.int .i64 b2)), .c (.lit (.int .i64 b3))]) = some (((a0 == b0) && ((a1 == b1) && true)) && (((a2 == b2) && ((a3 == b3) && true)) && true)) := by kernel_rfl
@[go_sem] theorem eqGuard_67 : Tryd.prog.eqGuardType Tryd.prog.depth 67 = false := by kernel_rfl
@[go_sem] theorem eqT_67 (a0 b0 : ByteArray) (a1 b1 : Int) : eqT Tryd.prog 8 67 (.agg [.c (.lit (.string a0)), .c (.lit (.int .i64 a1))]) (.agg [.c (.lit (.string b0)), .c (.lit (.int .i64 b1))]) = some ((a0 == b0) && ((a1 == b1) && true)) := by kernel_rfl
@[go_sem] theorem eqGuard_68 : Tryd.prog.eqGuardType Tryd.prog.depth 68 = false := by kernel_rfl
@[go_sem] theorem eqT_68 (a0 b0 : ByteArray) (a1 b1 : Int) : eqT Tryd.prog 8 68 (.agg [.c (.lit (.string a0)), .c (.lit (.int .i64 a1))]) (.agg [.c (.lit (.string b0)), .c (.lit (.int .i64 b1))]) = some ((a0 == b0) && ((a1 == b1) && true)) := by kernel_rfl
@[go_sem] theorem eqGuard_73 : Tryd.prog.eqGuardType Tryd.prog.depth 73 = false := by kernel_rfl
@[go_sem] theorem eqT_73 (a0 b0 : Int) (a1 b1 : Int) : eqT Tryd.prog 8 73 (.agg [.c (.lit (.int .i64 a0)), .c (.lit (.int .i64 a1))]) (.agg [.c (.lit (.int .i64 b0)), .c (.lit (.int .i64 b1))]) = some ((a0 == b0) && ((a1 == b1) && true)) := by kernel_rfl
@[go_sem] theorem eqGuard_74 : Tryd.prog.eqGuardType Tryd.prog.depth 74 = false := by kernel_rfl
@[go_sem] theorem eqT_74 (a0 b0 : Int) (a1 b1 : Int) : eqT Tryd.prog 8 74 (.agg [.c (.lit (.int .i64 a0)), .c (.lit (.int .i64 a1))]) (.agg [.c (.lit (.int .i64 b0)), .c (.lit (.int .i64 b1))]) = some ((a0 == b0) && ((a1 == b1) && true)) := by kernel_rfl
@[go_sem] theorem eqGuard_112 : Tryd.prog.eqGuardType Tryd.prog.depth 112 = false := by kernel_rfl
@[go_sem] theorem eqT_112 (a0 b0 : Int) (a1 b1 : Int) : eqT Tryd.prog 8 112 (.agg [.c (.lit (.int .u8 a0)), .c (.lit (.int .u8 a1))]) (.agg [.c (.lit (.int .u8 b0)), .c (.lit (.int .u8 b1))]) = some ((a0 == b0) && ((a1 == b1) && true)) := by kernel_rfl
@[go_sem] theorem eqGuard_113 : Tryd.prog.eqGuardType Tryd.prog.depth 113 = false := by kernel_rfl
@[go_sem] theorem eqT_113 (a0 b0 : Int) (a1 b1 : Int) : eqT Tryd.prog 8 113 (.agg [.c (.lit (.int .u8 a0)), .c (.lit (.int .u8 a1))]) (.agg [.c (.lit (.int .u8 b0)), .c (.lit (.int .u8 b1))]) = some ((a0 == b0) && ((a1 == b1) && true)) := by kernel_rfl
end Go.Proofs.YtiaamlaibfpdgaaDoor

/- What is taken from the shelf, laid at this program (written by the kit). -/
namespace Go.Proofs.YtiaamlaibfpdgaaDoor
open Go.Shelf
def Tryd.laysV_ren : Go.Shelf.Ren := ⟨fun | 196 => 68 | 259 => 91 | n => n, fun | 9 => 9 | 4 => 4 | 3 => 3 | 5 => 5 | 12 => 12 | 119 => 111 | 0 => 0 | 46 => 115 | 139 => 114 | 138 => 113 | 53 => 125 | n => n, fun | 3 => 0 | 4 => 1 | n => n⟩
theorem Tryd.laysV : Go.Proofs.Lays.n196 Tryd.prog Tryd.laysV_ren := {
  mixed := by kernel_rfl
  f196 := Tryd.func68.trans (congrArg some (by kernel_rfl))
  f259 := Tryd.func91.trans (congrArg some (by kernel_rfl))
  t0 := Tryd.underlying0
  a0 := Tryd.isAgg0
  z0 := Tryd.sizeOf0
  v0 := Tryd.zeroValue0
  t3 := Tryd.underlying3
  a3 := Tryd.isAgg3
  z3 := Tryd.sizeOf3
  v3 := Tryd.zeroValue3
  t4 := Tryd.underlying4
  a4 := Tryd.isAgg4
  z4 := Tryd.sizeOf4
  v4 := Tryd.zeroValue4
  t5 := Tryd.underlying5
  a5 := Tryd.isAgg5
  z5 := Tryd.sizeOf5
  v5 := Tryd.zeroValue5
  t9 := Tryd.underlying9
  a9 := Tryd.isAgg9
  z9 := Tryd.sizeOf9
  v9 := Tryd.zeroValue9
  t12 := Tryd.underlying12
  a12 := Tryd.isAgg12
  z12 := Tryd.sizeOf12
  v12 := Tryd.zeroValue12
  t46 := Tryd.underlying115
  a46 := Tryd.isAgg115
  z46 := Tryd.sizeOf115
  v46 := Tryd.zeroValue115
  t53 := Tryd.underlying125
  a53 := Tryd.isAgg125
  z53 := Tryd.sizeOf125
  v53 := Tryd.zeroValue125
  t119 := Tryd.underlying111
  a119 := Tryd.isAgg111
  z119 := Tryd.sizeOf111
  t138 := Tryd.underlying113
  a138 := Tryd.isAgg113
  z138 := Tryd.sizeOf113
  v138 := Tryd.zeroValue113
  t139 := Tryd.underlying114
  a139 := Tryd.isAgg114
  z139 := Tryd.sizeOf114
  v139 := Tryd.zeroValue114
  g3 := by kernel_rfl
  g4 := by kernel_rfl }
def Tryd.laysC_ren : Go.Shelf.Ren := ⟨fun | 150 => 32 | 153 => 65 | 152 => 86 | 226 => 87 | 227 => 88 | 228 => 89 | 137 => 101 | 119 => 102 | 224 => 103 | 225 => 104 | 217 => 109 | 266 => 111 | n => n, fun | 9 => 9 | 4 => 4 | 3 => 3 | 5 => 5 | 21 => 21 | 117 => 106 | 116 => 105 | 0 => 0 | 46 => 115 | 124 => 123 | n => n, fun | n => n⟩
theorem Tryd.laysC : Go.Proofs.Lays.n150 Tryd.prog Tryd.laysC_ren := {
  mixed := by kernel_rfl
  f119 := Tryd.func102.trans (congrArg some (by kernel_rfl))
  f137 := Tryd.func101.trans (congrArg some (by kernel_rfl))
  f150 := Tryd.func32.trans (congrArg some (by kernel_rfl))
  f152 := Tryd.func86.trans (congrArg some (by kernel_rfl))
  f153 := Tryd.func65.trans (congrArg some (by kernel_rfl))
  f217 := Tryd.func109.trans (congrArg some (by kernel_rfl))
  f224 := Tryd.func103.trans (congrArg some (by kernel_rfl))
  f225 := Tryd.func104.trans (congrArg some (by kernel_rfl))
  f226 := Tryd.func87.trans (congrArg some (by kernel_rfl))
  f227 := Tryd.func88.trans (congrArg some (by kernel_rfl))
  f228 := Tryd.func89.trans (congrArg some (by kernel_rfl))
  f266 := Tryd.func111.trans (congrArg some (by kernel_rfl))
  t0 := Tryd.underlying0
  a0 := Tryd.isAgg0
  z0 := Tryd.sizeOf0
  v0 := Tryd.zeroValue0
  t3 := Tryd.underlying3
  a3 := Tryd.isAgg3
  z3 := Tryd.sizeOf3
  v3 := Tryd.zeroValue3
  t4 := Tryd.underlying4
  a4 := Tryd.isAgg4
  z4 := Tryd.sizeOf4
  v4 := Tryd.zeroValue4
  t5 := Tryd.underlying5
  a5 := Tryd.isAgg5
  z5 := Tryd.sizeOf5
  v5 := Tryd.zeroValue5
  t9 := Tryd.underlying9
  a9 := Tryd.isAgg9
  z9 := Tryd.sizeOf9
  v9 := Tryd.zeroValue9
  t21 := Tryd.underlying21
  a21 := Tryd.isAgg21
  z21 := Tryd.sizeOf21
  v21 := Tryd.zeroValue21
  t46 := Tryd.underlying115
  a46 := Tryd.isAgg115
  z46 := Tryd.sizeOf115
  v46 := Tryd.zeroValue115
  t116 := Tryd.underlying105
  a116 := Tryd.isAgg105
  z116 := Tryd.sizeOf105
  t117 := Tryd.underlying106
  a117 := Tryd.isAgg106
  z117 := Tryd.sizeOf106
  v117 := Tryd.zeroValue106
  t124 := Tryd.underlying123
  a124 := Tryd.isAgg123
  z124 := Tryd.sizeOf123
  v124 := Tryd.zeroValue123 }
end Go.Proofs.YtiaamlaibfpdgaaDoor

/- The logic of data: a contract that the kit proves at the machine, as one said by data. -/
namespace Go.Dl
open Go.RowKit
noncomputable section

theorem below_kok {w w' : World} {K : KSet} (hk : KOk w K) (hb : Below w.heap.size w w') : KOk w' K :=
  hk.move fun b o h => hb.cell (p := ⟨b, o, none⟩) (lt_of_cell (hk b o h))

theorem dcalls_below {P : Program} {f : FuncId} {ds : List D} {u : Value} (hp : Program.plainF P f = true) (hu : u.oneCell' = true)
    (h : ∀ (w : World) (K : KSet) (vs : Array Value), KOk w K → vs.size = ds.length → (∀ (j : Nat) d v, ds[j]? = some d → vs[j]? = some v → VD w (E0 K) d v) → Calls P f vs w fun e w' => e = .returned u ∧ Below w.heap.size w w') :
    DCalls P f ds (.one (.c (.lit u))) := by
  refine ⟨hp, fun w K vs hk hl hv => (h w K vs hk hl hv).mono ?_⟩
  rintro e w' ⟨rfl, hb⟩
  have hns : ∀ n b o, ¬ spare ((E0 K).val n) b o := fun n b o ⟨a, len, cap, h1, _⟩ => by simp [E0] at h1
  exact ⟨u, E0 K, rfl, ⟨hb, fun _ _ h => h, fun _ _ _ h => h, below_kok hk hb, fun n b o hs => absurd hs (hns n b o), fun n m b o hs => absurd hs (hns n b o)⟩, .one _ _ (.c _ _ (.lit _ hu))⟩

theorem calls_lit {P : Program} {f : FuncId} {ds : List D} {u : Value} (hD : DCalls P f ds (.one (.c (.lit u)))) {w : World} {K : KSet} {vs : Array Value} (hk : KOk w K) (hl : vs.size = ds.length) (hv : ∀ (j : Nat) d v, ds[j]? = some d → vs[j]? = some v → VD w (E0 K) d v) :
    Calls P f vs w fun e w' => e = .returned u ∧ Below w.heap.size w w' :=
  (hD.2 w K vs hk hl hv).mono fun e w' h => by
    obtain ⟨v, E', rfl, hext, hv⟩ := h
    rw [hv.lit]
    exact ⟨rfl, hext.1⟩

/-! ### A scope that is left by no jump -/

theorem stepR_scope' {P : Program} {b : Frame} {a : Act} {k : List Item} {cs : List Frame} {w : World} {c : Code} : step P (lone (b.atR a (.code (.scope c) :: k)) cs w) = .next (lone (b.atR a (.code c :: .inScope c :: k)) cs w) :=
  step_lone_go (by simp [stepG, stepG.exec, Frame.atR])
theorem stepR_inScope' {P : Program} {b : Frame} {a : Act} {k : List Item} {cs : List Frame} {w : World} {c : Code} : step P (lone (b.atR a (.inScope c :: k)) cs w) = .next (lone (b.atR a k) cs w) :=
  step_lone_go (by simp [stepG, stepG.exec, Frame.atR])

def noGotoD (Q : Exit → DS → Prop) : Exit → DS → Prop
  | .goto _, _ => False
  | e, s => Q e s

theorem dw_scope {P : Program} {s : DS} {Q : Exit → DS → Prop} {c : Code} (h : DW P c s (noGotoD Q)) : DW P (.scope c) s Q := by
  intro X a w hr b k cs hro hb hroom
  obtain ⟨e, a₁, w₁, ⟨s₁, hq, hr₁⟩, harr⟩ := h X a w hr b (.inScope c :: k) cs hro hb hroom
  cases e with
  | normal => exact ⟨.normal, a₁, w₁, ⟨s₁, hq, hr₁⟩, .head (fenced_calm hb hroom rfl) stepR_scope' (StepsIn.trans harr (.one (fenced_calm hb hroom rfl) stepR_inScope'))⟩
  | goto l => exact hq.elim
  | exit id =>
    have hx : exitTo id (.inScope c :: k) = exitTo id k := by simp [exitTo]
    exact ⟨_, a₁, w₁, ⟨s₁, hq, hr₁⟩, fun k1 hk => .head (fenced_calm hb hroom rfl) stepR_scope' (harr.1 k1 (by rw [hx]; exact hk)), fun h1 hk => let ⟨k₁, h2, h3⟩ := harr.2 h1 (by rw [hx]; exact hk); ⟨k₁, h2, .head (fenced_calm hb hroom rfl) stepR_scope' h3⟩⟩
  | ret => exact ⟨_, a₁, w₁, ⟨s₁, hq, hr₁⟩, .of_steps (.one (fenced_calm hb hroom rfl) stepR_scope') harr⟩
  | panic ch => exact ⟨_, a₁, w₁, ⟨s₁, hq, hr₁⟩, .of_steps (.one (fenced_calm hb hroom rfl) stepR_scope') harr⟩
  | outgrown => exact ⟨_, a₁, w₁, ⟨s₁, hq, hr₁⟩, .of_steps (.one (fenced_calm hb hroom rfl) stepR_scope') harr⟩
theorem noGotoD_normal (Q : Exit → DS → Prop) (s : DS) : noGotoD Q .normal s = Q .normal s := rfl
theorem noGotoD_ret (Q : Exit → DS → Prop) (s : DS) : noGotoD Q .ret s = Q .ret s := rfl
theorem noGotoD_exit (Q : Exit → DS → Prop) (id : Nat) (s : DS) : noGotoD Q (.exit id) s = Q (.exit id) s := rfl
attribute [go_sem ↓] noGotoD_normal noGotoD_ret noGotoD_exit

theorem sub_ownX {s : DS} (t n sz : Nat) {xs : List (List C)} (h : s.sl t = .one (.ex sz xs)) : s.Sub ((s.close [n]).put (some t) (.one (.own n sz xs))) := by
  rintro X a w ⟨E, hE⟩
  have hv := hE.sl t
  rw [h] at hv
  cases hv with
  | one _ _ hv => cases hv with
    | ex _ _ _ hvc hx =>
      have hns : ∀ b o, ¬ spare ((a.tmps.getD t undef, sz) : Value × Nat) b o := fun b o ⟨_, len, cap, h1, _, _, h2, h3⟩ => by
        obtain ⟨A, m, hA⟩ := hx
        simp only at h1
        rw [hA] at h1
        injection h1 with _ h4 h5
        simp only at h2 h3
        rw [← h4] at h2; rw [← h5] at h3
        omega
      have h1 := hE.setVal n (a.tmps.getD t undef, sz) (fun b o hs => absurd hs (hns b o))
      refine ⟨_, ⟨h1.wi, fun u => ?_, h1.size, h1.defers, h1.small, h1.pl⟩⟩
      simp only [DS.put]
      by_cases hu : u = t
      · subst hu
        rw [if_pos rfl]
        exact .one _ _ (.own n sz xs _ hvc (by simp [Env.setVal]) hx.tame)
      · rw [if_neg hu]; exact h1.sl u
theorem dw_ownX {P : Program} {s : DS} {Q : Exit → DS → Prop} (t n sz : Nat) {xs : List (List C)} {c : Code} (h : s.sl t = .one (.ex sz xs)) (hc : DW P c ((s.close [n]).put (some t) (.one (.own n sz xs))) Q) : DW P c s Q := dw_weaken (sub_ownX t n sz h) hc
end
end Go.Dl

/- The logic of data: a region whose order is drawn, where up to three operations may come up. -/
namespace Go.Dl
open Go.RowKit
noncomputable section

inductive PQ where
  | leaf
  | run (l : List Nat) (t : PQ)
  | two (i : Nat) (t : PQ) (j : Nat) (u : PQ)
  | thr (i : Nat) (t : PQ) (j : Nat) (u : PQ) (k : Nat) (v : PQ)

def PQ.len : PQ → Nat
  | .leaf => 0
  | .run l t => l.length + t.len
  | .two _ t _ _ => 1 + t.len
  | .thr _ t _ _ _ _ => 1 + t.len

def PQ.ok (ops : List Oper) : PQ → Array Bool → Bool
  | .leaf, listed => (Region.ready .any ops.toArray listed).isEmpty
  | .run l t, listed => runOk ops l listed && t.ok ops (afterA l listed)
  | .two i t j u, listed => (Region.ready .any ops.toArray listed == [i, j]) && (ops[i]?).isSome && (ops[j]?).isSome && (t.len == u.len) && t.ok ops (listed.setIfInBounds i true) && u.ok ops (listed.setIfInBounds j true)
  | .thr i t j u k v, listed => (Region.ready .any ops.toArray listed == [i, j, k]) && (ops[i]?).isSome && (ops[j]?).isSome && (ops[k]?).isSome && (t.len == u.len) && (t.len == v.len) && t.ok ops (listed.setIfInBounds i true) && u.ok ops (listed.setIfInBounds j true) && v.ok ops (listed.setIfInBounds k true)

def PQ.wk (P : Program) (ops : List Oper) (hd : List Nat) (ds : List (Option Nat)) : PQ → DS → (DS → Prop) → Prop
  | .leaf, s, K => K s
  | .run l t, s, K => Go.Dl.wk P ds (pickH ops hd l) s fun s' => t.wk P ops hd ds s' K
  | .two i t j u, s, K => (Go.Dl.wk P ds (pickH ops hd [i]) s fun s' => t.wk P ops hd ds s' K) ∧ Go.Dl.wk P ds (pickH ops hd [j]) s fun s' => u.wk P ops hd ds s' K
  | .thr i t j u k v, s, K => (Go.Dl.wk P ds (pickH ops hd [i]) s fun s' => t.wk P ops hd ds s' K) ∧ (Go.Dl.wk P ds (pickH ops hd [j]) s fun s' => u.wk P ops hd ds s' K) ∧ Go.Dl.wk P ds (pickH ops hd [k]) s fun s' => v.wk P ops hd ds s' K

section
variable {P : Program}

theorem pq_ok {ops : List Oper} {hd : List Nat} {N : Nat} (hb : dstB ops N = true) {K : DS → Prop} : ∀ (t : PQ) (listed : Array Bool) (s : DS), t.ok ops listed = true → t.wk P ops hd (ops.map (·.dst)) s K → AnyOk P ops N K t.len listed s
  | .leaf, listed, s, hc, h => any_done (by simpa [PQ.ok] using hc) h
  | .run l t, listed, s, hc, h => by
    simp only [PQ.ok, Bool.and_eq_true] at hc
    exact run_ok hb l listed s hc.1 h (fun s' h' => pq_ok hb t _ s' hc.2 h') (run_some l listed hc.1)
  | .two i t j u, listed, s, hc, h => by
    simp only [PQ.ok, Bool.and_eq_true, beq_iff_eq] at hc
    obtain ⟨⟨⟨⟨⟨h1, h2⟩, h3⟩, h4⟩, h5⟩, h6⟩ := hc
    have hl : (PQ.two i t j u).len = t.len + 1 := by simp [PQ.len]; omega
    rw [hl]
    refine any_each hb h1 (by simp) fun k hk => ?_
    have hk' : k = i ∨ k = j := by simpa using hk
    rcases hk' with rfl | rfl
    · cases ho : ops[k]? with
      | none => rw [ho] at h2; cases h2
      | some o =>
        have h7 := h.1
        simp only [pickH, ho] at h7
        exact ⟨o, rfl, guardS_mono (fun s' h' => pq_ok hb t _ s' h5 h') (wk_guardS h7)⟩
    · cases ho : ops[k]? with
      | none => rw [ho] at h3; cases h3
      | some o =>
        have h7 := h.2
        simp only [pickH, ho] at h7
        refine ⟨o, rfl, guardS_mono (fun s' h' => ?_) (wk_guardS h7)⟩
        rw [h4]
        exact pq_ok hb u _ s' h6 h'
  | .thr i t j u k v, listed, s, hc, h => by
    simp only [PQ.ok, Bool.and_eq_true, beq_iff_eq] at hc
    obtain ⟨⟨⟨⟨⟨⟨⟨⟨h1, h2⟩, h3⟩, h3'⟩, h4⟩, h4'⟩, h5⟩, h6⟩, h6'⟩ := hc
    have hl : (PQ.thr i t j u k v).len = t.len + 1 := by simp [PQ.len]; omega
    rw [hl]
    refine any_each hb h1 (by simp) fun q hq => ?_
    have hq' : q = i ∨ q = j ∨ q = k := by simpa using hq
    rcases hq' with rfl | rfl | rfl
    · cases ho : ops[q]? with
      | none => rw [ho] at h2; cases h2
      | some o =>
        have h7 := h.1
        simp only [pickH, ho] at h7
        exact ⟨o, rfl, guardS_mono (fun s' h' => pq_ok hb t _ s' h5 h') (wk_guardS h7)⟩
    · cases ho : ops[q]? with
      | none => rw [ho] at h3; cases h3
      | some o =>
        have h7 := h.2.1
        simp only [pickH, ho] at h7
        refine ⟨o, rfl, guardS_mono (fun s' h' => ?_) (wk_guardS h7)⟩
        rw [h4]
        exact pq_ok hb u _ s' h6 h'
    · cases ho : ops[q]? with
      | none => rw [ho] at h3'; cases h3'
      | some o =>
        have h7 := h.2.2
        simp only [pickH, ho] at h7
        refine ⟨o, rfl, guardS_mono (fun s' h' => ?_) (wk_guardS h7)⟩
        rw [h4']
        exact pq_ok hb v _ s' h6' h'

def checkPQ (ops : List Oper) (N : Nat) (pa : List Nat) (t : PQ) : Bool :=
  dstB ops N && (pa.isEmpty || Region.noSelect ops.toArray) && checkA ops pa (Array.replicate ops.length false) && t.ok ops (afterA pa (Array.replicate ops.length false)) && (t.len + pa.length == ops.length) && (pa.all fun i => (ops[i]?).isSome)

theorem dw_treeQ {id : Nat} {l : List Oper} {s : DS} {Q : Exit → DS → Prop} {N : Nat} (pa : List Nat) (hd : List Nat) (t : PQ) (hm : P.follows .mixedOrders = true) (hn : s.n = N) (hc : checkPQ l N pa t = true)
    (h : wk P (l.map (·.dst)) (pickM l .blind pa) s fun s' => t.wk P l hd (l.map (·.dst)) s' (Q .normal)) : DW P (.region id l.toArray true) s Q := by
  simp only [checkPQ, Bool.and_eq_true, Bool.or_eq_true, beq_iff_eq] at hc
  obtain ⟨⟨⟨⟨⟨h1, h2⟩, h3⟩, h4⟩, h5⟩, h6⟩ := hc
  subst hn
  refine dw_any h1 hm ?_
  have hA : partA (pa.map fun i => (i, Mode.blind)) = pa := by
    clear h h2 h3 h4 h5 h6
    induction pa with
    | nil => rfl
    | cons i l ih => simp [partA, Mode.isBlind, ih]
  have hB : partB (pa.map fun i => (i, Mode.blind)) = [] := by
    clear h h2 h3 h4 h5 h6 hA
    induction pa with
    | nil => rfl
    | cons i l ih => simp [partB, Mode.isBlind, ih]
  have hw := picks_walk (picks_pickM pa h6) (by rw [hB]; simp) h
  rw [hA, hB] at hw
  suffices hs : AnyOk P l s.n (Q .normal) (t.len + pa.length) (Array.replicate l.length false) s by rw [h5] at hs; exact hs
  have mono : ∀ {K K' : DS → Prop} (hk : ∀ s, K s → K' s) (pa : List Nat) (s : DS), walkA P l pa s K → walkA P l pa s K' := by
    intro K K' hk pa
    induction pa with
    | nil => exact fun s h => hk s h
    | cons i pa ih =>
      intro s h
      simp only [walkA] at h ⊢
      cases ho : l[i]? with
      | none => rw [ho] at h; exact h.elim
      | some o =>
        simp only [ho] at h ⊢
        revert h
        unfold BL
        split
        · rintro ⟨d, e1, e2⟩; exact ⟨d, e1, ih _ e2⟩
        · exact fun h => ih _ h
        · exact fun h => h
  rcases h2 with h2 | h2
  · have hpa : pa = [] := by simpa using h2
    subst hpa
    exact pq_ok h1 t _ s h4 hw
  · exact walkA_ok h1 h2 pa _ s h3 (mono (fun s' h' => pq_ok h1 t _ s' h4 h') pa s hw)

theorem pqwk_leaf (ops : List Oper) (hd : List Nat) (ds : List (Option Nat)) (s : DS) (K : DS → Prop) : PQ.leaf.wk P ops hd ds s K = K s := rfl
theorem pqwk_run (ops : List Oper) (hd : List Nat) (ds : List (Option Nat)) (l : List Nat) (t : PQ) (s : DS) (K : DS → Prop) : (PQ.run l t).wk P ops hd ds s K = Go.Dl.wk P ds (pickH ops hd l) s fun s' => t.wk P ops hd ds s' K := rfl
theorem pqwk_two (ops : List Oper) (hd : List Nat) (ds : List (Option Nat)) (i j : Nat) (t u : PQ) (s : DS) (K : DS → Prop) : (PQ.two i t j u).wk P ops hd ds s K = ((Go.Dl.wk P ds (pickH ops hd [i]) s fun s' => t.wk P ops hd ds s' K) ∧ Go.Dl.wk P ds (pickH ops hd [j]) s fun s' => u.wk P ops hd ds s' K) := rfl
theorem pqwk_thr (ops : List Oper) (hd : List Nat) (ds : List (Option Nat)) (i j k : Nat) (t u v : PQ) (s : DS) (K : DS → Prop) : (PQ.thr i t j u k v).wk P ops hd ds s K = ((Go.Dl.wk P ds (pickH ops hd [i]) s fun s' => t.wk P ops hd ds s' K) ∧ (Go.Dl.wk P ds (pickH ops hd [j]) s fun s' => u.wk P ops hd ds s' K) ∧ Go.Dl.wk P ds (pickH ops hd [k]) s fun s' => v.wk P ops hd ds s' K) := rfl
attribute [go_sem] pqwk_leaf pqwk_run pqwk_two pqwk_thr
end
end
end Go.Dl

/- The logic of data: a region whose order is drawn, with operations that look at slots alone anywhere among the ways; lists without memory. -/
namespace Go.Dl
open Go.RowKit
noncomputable section

theorem dcalls_le {P : Program} {f : FuncId} {ds ds' : List D} {r : D} (hl : DLeL ds ds') (hc : DCalls P f ds' r) : DCalls P f ds r :=
  ⟨hc.1, fun w K vs hk hs hv => hc.2 w K vs hk (by rw [hs, hl.get.1]) fun j d' v hd' hv' => by
    obtain ⟨d, hd, hle⟩ := hl.get.2 j d' hd'
    exact hle w _ v (hv j d v hd hv')⟩

inductive TLeL : List T → List T → Prop where
  | nil : TLeL [] []
  | same (t : T) {l l' : List T} (h : TLeL l l') : TLeL (t :: l) (t :: l')
  | none (sz : Nat) {l l' : List T} (h : TLeL l l') : TLeL (.c (.lit (.slice Option.none 0 0)) :: l) (.c (.sl sz []) :: l')
theorem TLeL.get {l l' : List T} (h : TLeL l l') : l.length = l'.length ∧ ∀ (j : Nat) t', l'[j]? = some t' → ∃ t, l[j]? = some t ∧ ∀ w E v, VT w E t v → VT w E t' v := by
  induction h with
  | nil => exact ⟨rfl, fun j t h => by simp at h⟩
  | same t h ih =>
    refine ⟨by simp [ih.1], fun j t' ht => ?_⟩
    cases j with
    | zero => simp at ht; subst ht; exact ⟨_, rfl, fun w E v h => h⟩
    | succ j => simpa using ih.2 j t' (by simpa using ht)
  | none sz h ih =>
    refine ⟨by simp [ih.1], fun j t' ht => ?_⟩
    cases j with
    | zero =>
      simp at ht; subst ht
      refine ⟨_, rfl, fun w E v h => ?_⟩
      cases h with
      | c _ _ h => cases h with
        | lit _ h => exact .c _ _ (.nil sz)
    | succ j => simpa using ih.2 j t' (by simpa using ht)
theorem TLeL.refl_ : ∀ l : List T, TLeL l l
  | [] => .nil
  | t :: l => .same t (TLeL.refl_ l)
theorem dle_agg {l l' : List T} (h : TLeL l l') : DLe (.agg l) (.agg l') := fun w E v hv => by
  cases hv with
  | agg _ vs hl hr =>
    refine .agg _ _ (by rw [hl, h.get.1]) fun j t' v ht hv => ?_
    obtain ⟨t, h1, h2⟩ := h.get.2 j t' ht
    exact h2 _ _ _ (hr j t v h1 hv)
theorem dle_rfl (d : D) : DLe d d := fun w E v h => h

inductive PR where
  | leaf
  | run (l : List Nat) (t : PR)
  | bl (i : Nat) (t : PR)
  | ex (i : Nat) (t : PR)
  | dia (i j : Nat) (t : PR)
  | here (a : Array Bool) (t : PR)
  | two (i : Nat) (t : PR) (j : Nat) (u : PR)
  | thr (i : Nat) (t : PR) (j : Nat) (u : PR) (k : Nat) (v : PR)

def PR.len : PR → Nat
  | .leaf => 0
  | .run l t => l.length + t.len
  | .bl _ t => 1 + t.len
  | .ex _ t => 1 + t.len
  | .dia _ _ t => 2 + t.len
  | .here _ t => t.len
  | .two _ t _ _ => 1 + t.len
  | .thr _ t _ _ _ _ => 1 + t.len

def isExtract (o : Option Oper) : Bool := match o with
  | some o => match o.op with
    | .extract _ _ => true
    | _ => false
  | none => false

def apartAt (ops : List Oper) (i j : Nat) : Bool := match ops[i]?, ops[j]? with
  | some oi, some oj => oi.apart ops.toArray oj
  | _, _ => false

def PR.ok (ops : List Oper) : PR → Array Bool → Bool
  | .leaf, listed => (Region.ready .any ops.toArray listed).isEmpty
  | .run l t, listed => runOk ops l listed && t.ok ops (afterA l listed)
  | .bl i t, listed => Region.free .any ops.toArray listed i && (Region.ready .any ops.toArray listed).contains i && (ops[i]?).isSome && t.ok ops (listed.setIfInBounds i true)
  | .ex i t, listed => Region.free .any ops.toArray listed i && (Region.ready .any ops.toArray listed).contains i && isExtract ops[i]? && t.ok ops (listed.setIfInBounds i true)
  | .dia i j t, listed => (Region.ready .any ops.toArray listed == [i, j]) && (Region.ready .any ops.toArray (listed.setIfInBounds i true) == [j]) && (Region.ready .any ops.toArray (listed.setIfInBounds j true) == [i]) && apartAt ops i j && (i != j) && t.ok ops ((listed.setIfInBounds i true).setIfInBounds j true)
  | .here a t, listed => (listed == a) && t.ok ops a
  | .two i t j u, listed => (Region.ready .any ops.toArray listed == [i, j]) && (ops[i]?).isSome && (ops[j]?).isSome && (t.len == u.len) && t.ok ops (listed.setIfInBounds i true) && u.ok ops (listed.setIfInBounds j true)
  | .thr i t j u k v, listed => (Region.ready .any ops.toArray listed == [i, j, k]) && (ops[i]?).isSome && (ops[j]?).isSome && (ops[k]?).isSome && (t.len == u.len) && (t.len == v.len) && t.ok ops (listed.setIfInBounds i true) && u.ok ops (listed.setIfInBounds j true) && v.ok ops (listed.setIfInBounds k true)

def PR.wk (P : Program) (ops : List Oper) (hd : List Nat) (ds : List (Option Nat)) : PR → DS → (DS → Prop) → Prop
  | .leaf, s, K => K s
  | .run l t, s, K => Go.Dl.wk P ds (pickH ops hd l) s fun s' => t.wk P ops hd ds s' K
  | .bl i t, s, K => Go.Dl.wk P ds (pickM ops .blind [i]) s fun s' => t.wk P ops hd ds s' K
  | .ex i t, s, K => Go.Dl.wk P ds (pickM ops .light [i]) s fun s' => t.wk P ops hd ds s' K
  | .dia i j t, s, K => Go.Dl.wk P ds (pickM ops .light [i, j]) s fun s' => t.wk P ops hd ds s' K
  | .here _ t, s, K => t.wk P ops hd ds s K
  | .two i t j u, s, K => (Go.Dl.wk P ds (pickH ops hd [i]) s fun s' => t.wk P ops hd ds s' K) ∧ Go.Dl.wk P ds (pickH ops hd [j]) s fun s' => u.wk P ops hd ds s' K
  | .thr i t j u k v, s, K => (Go.Dl.wk P ds (pickH ops hd [i]) s fun s' => t.wk P ops hd ds s' K) ∧ (Go.Dl.wk P ds (pickH ops hd [j]) s fun s' => u.wk P ops hd ds s' K) ∧ Go.Dl.wk P ds (pickH ops hd [k]) s fun s' => v.wk P ops hd ds s' K

section
variable {P : Program}

theorem blind_extract {s : DS} {o : Oper} {x : Operand} {i : Nat} {ds : List D} {d : D} (ho : o.op = .extract x i) (hx : s.ev x = .tup ds) (hi : ds[i]? = some d) : Blind P s o d := fun X E a w hE => by
  have hv := hE.ev x
  rw [hx] at hv
  generalize he : a.eval x = v at hv
  cases hv with
  | tup _ vs hl hr =>
    have hlt : i < vs.size := by rw [hl]; exact (List.getElem?_eq_some_iff.1 hi).1
    exact ⟨vs[i], fun w' => by simp [execOp, ho, he, Instr.extract, hlt], hr i d _ hi (Array.getElem?_eq_getElem hlt)⟩
theorem extract_blind {s : DS} {o : Oper} {d : D} (h : isExtract (some o) = true) (hq : QD P s.ev s.bx o.op (· = d)) : Blind P s o d := by
  obtain ⟨dst, op, ty, pos, aft, g⟩ := o
  cases op with
  | extract x i =>
    simp only [QD] at hq
    split at hq
    · rename_i ds hx
      split at hq
      · rename_i d' hd
        subst hq
        exact blind_extract rfl hx hd
      · exact hq.elim
    · exact hq.elim
  | _ => simp [isExtract] at h

theorem wk_AL {ops : List Oper} {o : Oper} {l : List (Mode × Oper)} {s : DS} {K : DS → Prop} (h : wk P (ops.map (·.dst)) ((.light, o) :: l) s K) : AL P ops o s fun s' => wk P (ops.map (·.dst)) l s' K := by
  have h := wk_cons h
  unfold GIs at h
  unfold AL
  split at h
  · rename_i hw
    simp only [hw]
    cases h with
    | light d hq hk => exact ⟨d, hq, hk⟩
  · rename_i hw
    simp only [hw]
    exact h
  · exact h.elim

theorem pr_ok {ops : List Oper} {hd : List Nat} {N : Nat} (hb : dstB ops N = true) (hs : Region.noSelect ops.toArray = true) {K : DS → Prop} : ∀ (t : PR) (listed : Array Bool) (s : DS), t.ok ops listed = true → t.wk P ops hd (ops.map (·.dst)) s K → AnyOk P ops N K t.len listed s
  | .leaf, listed, s, hc, h => any_done (by simpa [PR.ok] using hc) h
  | .run l t, listed, s, hc, h => by
    simp only [PR.ok, Bool.and_eq_true] at hc
    exact run_ok hb l listed s hc.1 h (fun s' h' => pr_ok hb hs t _ s' hc.2 h') (run_some l listed hc.1)
  | .bl i t, listed, s, hc, h => by
    simp only [PR.ok, Bool.and_eq_true] at hc
    obtain ⟨⟨⟨h1, h2⟩, h3⟩, h4⟩ := hc
    have hl : (PR.bl i t).len = t.len + 1 := by simp [PR.len]; omega
    rw [hl]
    cases ho : ops[i]? with
    | none => rw [ho] at h3; cases h3
    | some o =>
      simp only [PR.wk, pickM, ho] at h
      have h7 := wk_cons h
      unfold GIs at h7
      split at h7
      · rename_i hw
        cases h7 with
        | blind d hbl hk => exact any_blind hb ho hs h1 h2 hw hbl (pr_ok hb hs t _ _ h4 hk)
      · rename_i hw
        exact any_not hb ho hs h1 h2 hw (pr_ok hb hs t _ _ h4 h7)
      · exact h7.elim
  | .ex i t, listed, s, hc, h => by
    simp only [PR.ok, Bool.and_eq_true] at hc
    obtain ⟨⟨⟨h1, h2⟩, h3⟩, h4⟩ := hc
    have hl : (PR.ex i t).len = t.len + 1 := by simp [PR.len]; omega
    rw [hl]
    cases ho : ops[i]? with
    | none => rw [ho] at h3; cases h3
    | some o =>
      rw [ho] at h3
      simp only [PR.wk, pickM, ho] at h
      have h7 := wk_cons h
      unfold GIs at h7
      split at h7
      · rename_i hw
        cases h7 with
        | light d hq hk => exact any_blind hb ho hs h1 h2 hw (extract_blind h3 hq) (pr_ok hb hs t _ _ h4 hk)
      · rename_i hw
        exact any_not hb ho hs h1 h2 hw (pr_ok hb hs t _ _ h4 h7)
      · exact h7.elim
  | .here a t, listed, s, hc, h => by
    simp only [PR.ok, Bool.and_eq_true, beq_iff_eq] at hc
    obtain ⟨rfl, h2⟩ := hc
    exact pr_ok hb hs t _ s h2 h
  | .dia i j t, listed, s, hc, h => by
    simp only [PR.ok, Bool.and_eq_true, beq_iff_eq, bne_iff_ne] at hc
    obtain ⟨⟨⟨⟨⟨h1, h2⟩, h3⟩, h4⟩, hne⟩, h5⟩ := hc
    have hl : (PR.dia i j t).len = (t.len + 1) + 1 := by simp [PR.len]; omega
    rw [hl]
    unfold apartAt at h4
    split at h4
    · rename_i oi oj hi hj
      simp only [PR.wk, pickM, hi, hj] at h
      have g1 : AL P ops oi s fun s1 => AL P ops oj s1 fun s2 => AnyOk P ops N K t.len ((listed.setIfInBounds i true).setIfInBounds j true) s2 := AL_mono (fun s1 q1 => AL_mono (fun s2 q2 => pr_ok hb hs t _ s2 h5 q2) (wk_AL q1)) (wk_AL h)
      have g2 := diamond h4 g1
      refine any_each hb h1 (by simp) fun k hk => ?_
      have hk' : k = i ∨ k = j := by simpa using hk
      rcases hk' with rfl | rfl
      · exact ⟨oi, hi, AL_guard (AL_mono (fun s1 q1 => any_each hb h2 (by simp) fun q hq => by
          obtain rfl : q = j := by simpa using hq
          exact ⟨oj, hj, AL_guard q1⟩) g1)⟩
      · refine ⟨oj, hj, AL_guard (AL_mono (fun s1 q1 => any_each hb h3 (by simp) fun q hq => ?_) g2)⟩
        obtain rfl : q = i := by simpa using hq
        rw [Array.setIfInBounds_comm _ _ hne] at q1
        exact ⟨oi, hi, AL_guard q1⟩
    · cases h4
  | .two i t j u, listed, s, hc, h => by
    simp only [PR.ok, Bool.and_eq_true, beq_iff_eq] at hc
    obtain ⟨⟨⟨⟨⟨h1, h2⟩, h3⟩, h4⟩, h5⟩, h6⟩ := hc
    have hl : (PR.two i t j u).len = t.len + 1 := by simp [PR.len]; omega
    rw [hl]
    refine any_each hb h1 (by simp) fun k hk => ?_
    have hk' : k = i ∨ k = j := by simpa using hk
    rcases hk' with rfl | rfl
    · cases ho : ops[k]? with
      | none => rw [ho] at h2; cases h2
      | some o =>
        have h7 := h.1
        simp only [pickH, ho] at h7
        exact ⟨o, rfl, guardS_mono (fun s' h' => pr_ok hb hs t _ s' h5 h') (wk_guardS h7)⟩
    · cases ho : ops[k]? with
      | none => rw [ho] at h3; cases h3
      | some o =>
        have h7 := h.2
        simp only [pickH, ho] at h7
        refine ⟨o, rfl, guardS_mono (fun s' h' => ?_) (wk_guardS h7)⟩
        rw [h4]
        exact pr_ok hb hs u _ s' h6 h'
  | .thr i t j u k v, listed, s, hc, h => by
    simp only [PR.ok, Bool.and_eq_true, beq_iff_eq] at hc
    obtain ⟨⟨⟨⟨⟨⟨⟨⟨h1, h2⟩, h3⟩, h3'⟩, h4⟩, h4'⟩, h5⟩, h6⟩, h6'⟩ := hc
    have hl : (PR.thr i t j u k v).len = t.len + 1 := by simp [PR.len]; omega
    rw [hl]
    refine any_each hb h1 (by simp) fun q hq => ?_
    have hq' : q = i ∨ q = j ∨ q = k := by simpa using hq
    rcases hq' with rfl | rfl | rfl
    · cases ho : ops[q]? with
      | none => rw [ho] at h2; cases h2
      | some o =>
        have h7 := h.1
        simp only [pickH, ho] at h7
        exact ⟨o, rfl, guardS_mono (fun s' h' => pr_ok hb hs t _ s' h5 h') (wk_guardS h7)⟩
    · cases ho : ops[q]? with
      | none => rw [ho] at h3; cases h3
      | some o =>
        have h7 := h.2.1
        simp only [pickH, ho] at h7
        refine ⟨o, rfl, guardS_mono (fun s' h' => ?_) (wk_guardS h7)⟩
        rw [h4]
        exact pr_ok hb hs u _ s' h6 h'
    · cases ho : ops[q]? with
      | none => rw [ho] at h3'; cases h3'
      | some o =>
        have h7 := h.2.2
        simp only [pickH, ho] at h7
        refine ⟨o, rfl, guardS_mono (fun s' h' => ?_) (wk_guardS h7)⟩
        rw [h4']
        exact pr_ok hb hs v _ s' h6' h'

def checkPR (ops : List Oper) (N : Nat) (t : PR) : Bool :=
  dstB ops N && Region.noSelect ops.toArray && t.ok ops (Array.replicate ops.length false) && (t.len == ops.length)

theorem dw_treeR {id : Nat} {l : List Oper} {s : DS} {Q : Exit → DS → Prop} {N : Nat} (hd : List Nat) (t : PR) (hm : P.follows .mixedOrders = true) (hn : s.n = N) (hc : checkPR l N t = true)
    (h : t.wk P l hd (l.map (·.dst)) s (Q .normal)) : DW P (.region id l.toArray true) s Q := by
  simp only [checkPR, Bool.and_eq_true, beq_iff_eq] at hc
  obtain ⟨⟨⟨h1, h2⟩, h3⟩, h4⟩ := hc
  subst hn
  refine dw_any h1 hm ?_
  have := pr_ok h1 h2 t _ s h3 h
  rwa [h4] at this
theorem prwk_leaf (ops : List Oper) (hd : List Nat) (ds : List (Option Nat)) (s : DS) (K : DS → Prop) : PR.leaf.wk P ops hd ds s K = K s := rfl
theorem prwk_run (ops : List Oper) (hd : List Nat) (ds : List (Option Nat)) (l : List Nat) (t : PR) (s : DS) (K : DS → Prop) : (PR.run l t).wk P ops hd ds s K = Go.Dl.wk P ds (pickH ops hd l) s fun s' => t.wk P ops hd ds s' K := rfl
theorem prwk_bl (ops : List Oper) (hd : List Nat) (ds : List (Option Nat)) (i : Nat) (t : PR) (s : DS) (K : DS → Prop) : (PR.bl i t).wk P ops hd ds s K = Go.Dl.wk P ds (pickM ops .blind [i]) s fun s' => t.wk P ops hd ds s' K := rfl
theorem prwk_ex (ops : List Oper) (hd : List Nat) (ds : List (Option Nat)) (i : Nat) (t : PR) (s : DS) (K : DS → Prop) : (PR.ex i t).wk P ops hd ds s K = Go.Dl.wk P ds (pickM ops .light [i]) s fun s' => t.wk P ops hd ds s' K := rfl
theorem prwk_dia (ops : List Oper) (hd : List Nat) (ds : List (Option Nat)) (i j : Nat) (t : PR) (s : DS) (K : DS → Prop) : (PR.dia i j t).wk P ops hd ds s K = Go.Dl.wk P ds (pickM ops .light [i, j]) s fun s' => t.wk P ops hd ds s' K := rfl
theorem prwk_here (ops : List Oper) (hd : List Nat) (ds : List (Option Nat)) (a : Array Bool) (t : PR) (s : DS) (K : DS → Prop) : (PR.here a t).wk P ops hd ds s K = t.wk P ops hd ds s K := rfl
theorem prwk_two (ops : List Oper) (hd : List Nat) (ds : List (Option Nat)) (i j : Nat) (t u : PR) (s : DS) (K : DS → Prop) : (PR.two i t j u).wk P ops hd ds s K = ((Go.Dl.wk P ds (pickH ops hd [i]) s fun s' => t.wk P ops hd ds s' K) ∧ Go.Dl.wk P ds (pickH ops hd [j]) s fun s' => u.wk P ops hd ds s' K) := rfl
theorem prwk_thr (ops : List Oper) (hd : List Nat) (ds : List (Option Nat)) (i j k : Nat) (t u v : PR) (s : DS) (K : DS → Prop) : (PR.thr i t j u k v).wk P ops hd ds s K = ((Go.Dl.wk P ds (pickH ops hd [i]) s fun s' => t.wk P ops hd ds s' K) ∧ (Go.Dl.wk P ds (pickH ops hd [j]) s fun s' => u.wk P ops hd ds s' K) ∧ Go.Dl.wk P ds (pickH ops hd [k]) s fun s' => v.wk P ops hd ds s' K) := rfl
attribute [go_sem] prwk_leaf prwk_run prwk_bl prwk_ex prwk_dia prwk_here prwk_two prwk_thr
end
end
end Go.Dl

/- The logic of data: a great region whose order is drawn, what has run said by the bits of one number. -/
namespace Go.Dl
open Go.RowKit
noncomputable section

def edgesOf (o : Oper) : List Nat := (o.after.toList.filter fun e => Region.binds .any e).map (·.on)
def readyG (m : Nat) : List (List Nat) → Nat → List Nat
  | [], _ => []
  | l :: r, i => if (!m.testBit i && l.all fun k => m.testBit k) = true then i :: readyG m r (i + 1) else readyG m r (i + 1)
def readyM (E : List (List Nat)) (m : Nat) : List Nat := readyG m E 0
def arrOf (n m : Nat) : Array Bool := ((List.range n).map fun i => m.testBit i).toArray

theorem arrOf_get {n m i : Nat} (d : Bool) (h : i < n) : (arrOf n m).getD i d = m.testBit i := by
  simp [arrOf, Array.getD, h]
theorem arrOf_out {n m i : Nat} (d : Bool) (h : ¬ i < n) : (arrOf n m).getD i d = d := by
  simp [arrOf, Array.getD, h]
theorem arrOf_set {n m i : Nat} (h : i < n) : (arrOf n m).setIfInBounds i true = arrOf n (m ||| 2 ^ i) := by
  apply Array.ext
  · simp [arrOf]
  · intro j h1 h2
    have hj : j < n := by simpa [arrOf] using h2
    rw [Array.getElem_setIfInBounds (by simpa [arrOf] using hj)]
    by_cases hij : i = j
    · subst hij; simp [arrOf, Nat.testBit_or, Nat.testBit_two_pow]
    · simp [arrOf, Nat.testBit_or, Nat.testBit_two_pow, hij]
theorem arrOf_zero (n : Nat) : Array.replicate n false = arrOf n 0 := by
  apply Array.ext
  · simp [arrOf]
  · intro j h1 h2
    simp [arrOf]

theorem ready_mask {ops : List Oper} {E : List (List Nat)} (hE : ops.map edgesOf = E) (hn : E.all (fun l => l.all fun k => decide (k < ops.length)) = true) (m : Nat) : Region.ready .any ops.toArray (arrOf ops.length m) = readyM E m := by
  subst hE
  have key : ∀ (suf : List Oper) (k : Nat), (∀ (i : Nat) o, suf[i]? = some o → ops[k + i]? = some o) → k + suf.length = ops.length →
      ((List.range' k suf.length).filter fun i => !(arrOf ops.length m).getD i true && ((ops.toArray[i]?).map fun o : Oper => o.after.all fun e => !Region.binds .any e || (arrOf ops.length m).getD e.on false).getD false) = readyG m (suf.map edgesOf) k := by
    intro suf
    induction suf with
    | nil => intro k _ _; rfl
    | cons o suf ih =>
      intro k hs hl
      have hk : k < ops.length := by simp at hl; omega
      have ho : ops[k]? = some o := hs 0 o rfl
      have hb : (o.after.all fun e => !Region.binds .any e || (arrOf ops.length m).getD e.on false) = (edgesOf o).all fun k => m.testBit k := by
        have h1 : (edgesOf o).all (fun k => decide (k < ops.length)) = true := by
          rw [List.all_eq_true] at hn
          exact hn _ (List.mem_map.2 ⟨o, List.mem_of_getElem? ho, rfl⟩)
        unfold edgesOf at h1 ⊢
        rw [← Array.all_toList]
        generalize o.after.toList = l at h1 ⊢
        induction l with
        | nil => rfl
        | cons e l ih2 =>
          cases hbe : Region.binds .any e
          · simp only [List.filter_cons, hbe, Bool.false_eq_true, if_false, List.all_cons, Bool.not_false, Bool.true_or, Bool.true_and] at h1 ⊢
            exact ih2 h1
          · simp only [List.filter_cons, hbe, if_true, List.map_cons, List.all_cons, Bool.and_eq_true, decide_eq_true_eq, Bool.not_true, Bool.false_or] at h1 ⊢
            rw [arrOf_get _ h1.1, ih2 h1.2]
      rw [List.length_cons, List.range'_succ, List.filter_cons, List.map_cons, readyG]
      have ih' := ih (k + 1) (fun i o' h => by rw [Nat.add_assoc, Nat.add_comm 1 i]; exact hs (i + 1) o' (by simpa using h)) (by simp at hl; omega)
      simp only [List.getElem?_toArray] at ih' ⊢
      rw [ih', arrOf_get _ hk, ho]
      simp only [Option.map_some, Option.getD_some, hb]
  have h := key ops 0 (fun i o h => by simpa using h) (by simp)
  unfold Region.ready readyM
  rw [← h]
  simp only [List.size_toArray, List.range_eq_range']

def runM (E : List (List Nat)) : List Nat → Nat → Bool
  | [], _ => true
  | i :: l, m => (readyM E m == [i]) && runM E l (m ||| 2 ^ i)
def afterM : List Nat → Nat → Nat
  | [], m => m
  | i :: l, m => afterM l (m ||| 2 ^ i)
def ltB (n : Nat) (l : List Nat) : Bool := l.all fun i => decide (i < n)

def PR.okM (ops : List Oper) (E : List (List Nat)) : PR → Nat → Bool
  | .leaf, m => (readyM E m).isEmpty
  | .run l t, m => ltB ops.length l && (runM E l m && t.okM ops E (afterM l m))
  | .bl i t, m => decide (i < ops.length) && (Region.free .any ops.toArray (arrOf ops.length m) i && (readyM E m).contains i && (ops[i]?).isSome && t.okM ops E (m ||| 2 ^ i))
  | .ex i t, m => decide (i < ops.length) && (Region.free .any ops.toArray (arrOf ops.length m) i && (readyM E m).contains i && isExtract ops[i]? && t.okM ops E (m ||| 2 ^ i))
  | .dia i j t, m => decide (i < ops.length) && decide (j < ops.length) && ((readyM E m == [i, j]) && (readyM E (m ||| 2 ^ i) == [j]) && (readyM E (m ||| 2 ^ j) == [i]) && apartAt ops i j && (i != j) && t.okM ops E ((m ||| 2 ^ i) ||| 2 ^ j))
  | .here a t, m => (arrOf ops.length m == a) && t.okM ops E m
  | .two i t j u, m => decide (i < ops.length) && decide (j < ops.length) && ((readyM E m == [i, j]) && (ops[i]?).isSome && (ops[j]?).isSome && (t.len == u.len) && t.okM ops E (m ||| 2 ^ i) && u.okM ops E (m ||| 2 ^ j))
  | .thr i t j u k v, m => decide (i < ops.length) && decide (j < ops.length) && decide (k < ops.length) && ((readyM E m == [i, j, k]) && (ops[i]?).isSome && (ops[j]?).isSome && (ops[k]?).isSome && (t.len == u.len) && (t.len == v.len) && t.okM ops E (m ||| 2 ^ i) && u.okM ops E (m ||| 2 ^ j) && v.okM ops E (m ||| 2 ^ k))

theorem run_mask {ops : List Oper} {E : List (List Nat)} (hE : ops.map edgesOf = E) (hn : E.all (fun l => l.all fun k => decide (k < ops.length)) = true) : ∀ (l : List Nat) (m : Nat), ltB ops.length l = true → runM E l m = true → runOk ops l (arrOf ops.length m) = true ∧ afterA l (arrOf ops.length m) = arrOf ops.length (afterM l m)
  | [], m, _, _ => ⟨rfl, rfl⟩
  | i :: l, m, hl, h => by
    simp only [ltB, List.all_cons, Bool.and_eq_true, decide_eq_true_eq] at hl
    simp only [runM, Bool.and_eq_true] at h
    have ih := run_mask hE hn l _ (by simpa [ltB] using hl.2) h.2
    simp only [runOk, afterA, afterM, arrOf_set hl.1, ready_mask hE hn, h.1, Bool.true_and]
    exact ih

theorem pr_mask {ops : List Oper} {E : List (List Nat)} (hE : ops.map edgesOf = E) (hn : E.all (fun l => l.all fun k => decide (k < ops.length)) = true) : ∀ (t : PR) (m : Nat), t.okM ops E m = true → t.ok ops (arrOf ops.length m) = true
  | .leaf, m, h => by simpa only [PR.ok, PR.okM, ready_mask hE hn] using h
  | .run l t, m, h => by
    simp only [PR.okM, Bool.and_eq_true] at h
    have h1 := run_mask hE hn l m h.1 h.2.1
    simp only [PR.ok, h1.1, h1.2, Bool.true_and]
    exact pr_mask hE hn t _ h.2.2
  | .bl i t, m, h => by
    simp only [PR.okM, Bool.and_eq_true, decide_eq_true_eq] at h
    simp only [PR.ok, ready_mask hE hn, arrOf_set h.1, h.2.1.1.1, h.2.1.1.2, h.2.1.2, Bool.true_and]
    exact pr_mask hE hn t _ h.2.2
  | .ex i t, m, h => by
    simp only [PR.okM, Bool.and_eq_true, decide_eq_true_eq] at h
    simp only [PR.ok, ready_mask hE hn, arrOf_set h.1, h.2.1.1.1, h.2.1.1.2, h.2.1.2, Bool.true_and]
    exact pr_mask hE hn t _ h.2.2
  | .dia i j t, m, h => by
    simp only [PR.okM, Bool.and_eq_true, decide_eq_true_eq] at h
    obtain ⟨⟨hi, hj⟩, ⟨⟨⟨⟨h1, h2⟩, h3⟩, h4⟩, h5⟩, h6⟩ := h
    simp only [PR.ok, ready_mask hE hn, arrOf_set hi, arrOf_set hj, h1, h2, h3, h4, h5, Bool.true_and]
    exact pr_mask hE hn t _ h6
  | .here a t, m, h => by
    simp only [PR.okM, Bool.and_eq_true, beq_iff_eq] at h
    obtain ⟨rfl, h2⟩ := h
    simp only [PR.ok, BEq.rfl, Bool.true_and]
    exact pr_mask hE hn t _ h2
  | .two i t j u, m, h => by
    simp only [PR.okM, Bool.and_eq_true, decide_eq_true_eq] at h
    obtain ⟨⟨hi, hj⟩, ⟨⟨⟨⟨h1, h2⟩, h3⟩, h4⟩, h5⟩, h6⟩ := h
    simp only [PR.ok, ready_mask hE hn, arrOf_set hi, arrOf_set hj, h1, h2, h3, h4, Bool.true_and, pr_mask hE hn t _ h5, pr_mask hE hn u _ h6]
  | .thr i t j u k v, m, h => by
    simp only [PR.okM, Bool.and_eq_true, decide_eq_true_eq] at h
    obtain ⟨⟨⟨hi, hj⟩, hk⟩, ⟨⟨⟨⟨⟨⟨⟨h1, h2⟩, h3⟩, h4⟩, h5⟩, h6⟩, h7⟩, h8⟩, h9⟩ := h
    simp only [PR.ok, ready_mask hE hn, arrOf_set hi, arrOf_set hj, arrOf_set hk, h1, h2, h3, h4, h5, h6, Bool.true_and, pr_mask hE hn t _ h7, pr_mask hE hn u _ h8, pr_mask hE hn v _ h9]

def checkPM (ops : List Oper) (N : Nat) (E : List (List Nat)) (t : PR) : Bool :=
  dstB ops N && Region.noSelect ops.toArray && (E.all fun l => l.all fun k => decide (k < ops.length)) && t.okM ops E 0 && (t.len == ops.length)

theorem dw_treeM {P : Program} {id : Nat} {l : List Oper} {s : DS} {Q : Exit → DS → Prop} {N : Nat} (hd : List Nat) (E : List (List Nat)) (t : PR) (hm : P.follows .mixedOrders = true) (hn : s.n = N) (hE : l.map edgesOf = E) (hc : checkPM l N E t = true)
    (h : t.wk P l hd (l.map (·.dst)) s (Q .normal)) : DW P (.region id l.toArray true) s Q := by
  simp only [checkPM, Bool.and_eq_true] at hc
  obtain ⟨⟨⟨⟨h1, h2⟩, h3⟩, h4⟩, h5⟩ := hc
  refine dw_treeR hd t hm hn ?_ h
  simp only [checkPR, Bool.and_eq_true]
  rw [arrOf_zero]
  exact ⟨⟨⟨h1, h2⟩, pr_mask hE h3 t 0 h4⟩, h5⟩
end
end Go.Dl
