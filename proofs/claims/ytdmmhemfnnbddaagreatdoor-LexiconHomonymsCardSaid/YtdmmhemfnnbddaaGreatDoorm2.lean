/- The logic of data over the kit's walk, and contracts of the functions that the laws reach, each said by plain data; part 3 of 6. -/
import Derived.Sort.Grow
import Derived.Laws.MakeOwn
import Derived.ProofKit
import Derived.Deep.Slices
import Derived.OpenShut
import Derived.ChangeOld
import Derived.Laws.RangeString
import Derived.Test.YtdmmhemfnnbddaaGreatDoorRows
import Derived.KernelRfl
import Derived.Shelf.SortM.Plain
import Derived.Shelf.SortM.SortNone
import Derived.Ground.SlgmProg
import Derived.Test.YtdmmhemfnnbddaaGreatDoorChecked
import Derived.Shelf.Unicode.ValidAny
import Derived.Shelf.Strings.IndexAnyAll
import Derived.Ground.NamesProg
import Derived.Lib.ValidLaws
import Derived.Test.YtdmmhemfnnbddaaGreatDoorm1
set_option linter.all false
set_option linter.unusedVariables false
set_option linter.unusedSimpArgs false
/- The logic of data: the rule of a loop over a function. -/
namespace Go.Dl
open Go.RowKit
noncomputable section

theorem WI.ro {X : Origin} {w : World} {E : Env} {bx : Mem} (h : WI X w E bx) (r : Option Nat) (m : Nat) : WI { X with ro := r, mrk := m } w E bx :=
  ⟨h.turn, h.sep, h.kin, h.kold, h.kok, h.boxes, h.boxne, h.free, h.disj, h.sbox, h.fix⟩

def roundQ (ms : Nat → Bool) (ns : List Nat) (s : DS) (N : DS → Prop) (Q : Exit → DS → Prop) : Exit → DS → Prop
  | .normal, t => N (s.aftCallM ms ns none (.tup []) t.bx)
  | .ret, t => Q .ret (s.aftCallM ms ns none (.tup []) t.bx)
  | .exit id, t => Q (.exit id) (s.aftCallM ms ns none (.tup []) t.bx)
  | .goto l, t => Q (.goto l) (s.aftCallM ms ns none (.tup []) t.bx)
  | _, _ => False

theorem rele_aft {ms : Nat → Bool} {X : Origin} {s : DS} {E E' : Env} {a : Act} {w w' : World} {H' : Mem} {ns : List Nat} (h : RelE X s E a w) (h' : WI ⟨w, E.K, callFM ms s.bx E ns, (callEnvM ms E ns).ρ, NB, none, w.heap.size⟩ w' E' H') (hc : CallOkM ms ns none) :
    RelE X (s.aftCallM ms ns none (.tup []) H') (aftEnvM ms E E' ns none) a w' :=
  ⟨wi_aft_m h.wi h.small.2 h' hc, fun t => ((h.sl t).mono (later_call_m h.wi h')).tr (renames_aft_m E E' ns none), h.size, h.defers.turn h'.turn, h.small, h.pl⟩

theorem foldl_zip (ps : Array Tmp) (vs : Array Value) (t : Array Value) :
    (ps.zip vs).foldl (fun tmps (p : Tmp × Value) => tmps.setIfInBounds p.1 p.2) t = (ps.toList.zip vs.toList).foldl (fun tmps p => tmps.setIfInBounds p.1 p.2) t := by
  rw [← Array.foldl_toList, Array.toList_zip]

theorem zip3 : ∀ (ps : List Nat) (vs : List Value) (ds : List D), vs.length = ds.length →
    ((ps.zip (vs.zip ds)).map fun p => (p.1, p.2.1)) = ps.zip vs ∧ ((ps.zip (vs.zip ds)).map fun p => (p.1, p.2.2)) = ps.zip ds
  | [], _, _, _ => ⟨rfl, rfl⟩
  | _ :: _, [], [], _ => ⟨rfl, rfl⟩
  | p :: ps, v :: vs, d :: ds, h => by
    obtain ⟨h1, h2⟩ := zip3 ps vs ds (by simpa using h)
    simp [h1, h2]

def Origin.re (X : Origin) (w : World) (E : Env) : Origin := ⟨w, E.K, fun b o => X.Young b o ∧ ¬ E.K b o, E.ρ, X.B, X.ro, X.mrk⟩

theorem RelE.re {X : Origin} {s : DS} {E : Env} {a : Act} {w : World} (h : RelE X s E a w) : RelE (X.re w E) s E a w := by
  refine ⟨⟨Turn.refl _ _, fun b o hk hf => hf.2 hk, fun _ _ h => h, fun _ _ _ _ h => h, h.wi.kok, fun n rows hn hne => ?_, h.wi.boxne, fun n b o hs => ?_, h.wi.disj, h.wi.sbox, fun _ _ => rfl⟩, h.sl, h.size, ⟨Nat.le_trans h.defers.1 h.wi.turn.size, h.defers.2⟩, h.small, h.pl⟩
  · obtain ⟨h1, h2, h3⟩ := h.wi.boxes n rows hn hne
    exact ⟨.inr fun o => ⟨h1.imp id (fun g => g o), h3 o⟩, h2, h3⟩
  · obtain ⟨h1, h2, h3⟩ := h.wi.free n b o hs
    exact ⟨.inr ⟨h1, h2⟩, h2, h3⟩

theorem RelE.unre {X : Origin} {s0 s : DS} {E0 E : Env} {a0 a : Act} {w0 w : World} (h0 : RelE X s0 E0 a0 w0) (h : RelE (X.re w0 E0) s E a w) : RelE X s E a w := by
  have hsz := h0.wi.turn.size
  refine ⟨⟨h0.wi.turn.trans h.wi.turn (fun i o hi hf => hf.1.resolve_left (by omega)), h0.wi.sep, fun b o hb => h.wi.kin b o (h0.wi.kin b o hb), fun b o hb hF hk => ?_, h.wi.kok, fun n rows hn hne => ?_, h.wi.boxne, fun n b o hs => ?_, h.wi.disj, h.wi.sbox, fun n hn => (h.wi.fix n hn).trans (h0.wi.fix n hn)⟩, h.sl, h.size, ⟨h0.defers.1, h.defers.2⟩, h.small, h.pl⟩
  · refine h0.wi.kold b o hb hF (h.wi.kold b o (Nat.lt_of_lt_of_le hb hsz) (fun hf => ?_) hk)
    rcases hf.1 with g | g
    · omega
    · exact hF g
  · obtain ⟨h1, h2, h3⟩ := h.wi.boxes n rows hn hne
    refine ⟨?_, h2, h3⟩
    rcases h1 with h1 | h1
    · exact .inl (Nat.le_trans hsz h1)
    · by_cases hb : X.w.heap.size ≤ E.ρ n
      · exact .inl hb
      · exact .inr fun o => (h1 o).1.resolve_left hb
  · obtain ⟨h1, h2, h3⟩ := h.wi.free n b o hs
    refine ⟨?_, h2, h3⟩
    rcases h1 with h1 | h1
    · exact .inl (Nat.le_trans hsz h1)
    · exact h1.1

theorem RelE.sub {X : Origin} {s s' : DS} {E : Env} {a : Act} {w : World} (h : RelE X s E a w) (hs : s.Sub s') : ∃ E', RelE X s' E' a w ∧ ∀ b o, E.K b o → E'.K b o := by
  obtain ⟨E', h'⟩ := hs _ _ _ ⟨E, h.re⟩
  exact ⟨E', h.unre h', h'.wi.kin⟩

section
variable {P : Program} {s : DS} {Q : Exit → DS → Prop}

theorem dw_rangeFunc {g : Operand} {ps : Array Tmp} {assign body : Code} {gf : FuncId} {caps : List T} {xs : List (List D)} {σ : Type} (ms : Nat → Bool) (ns : List Nat) (S : Nat → σ → DS) (Inv : Nat → σ → Prop) (st0 : σ) (hi0 : Inv 0 st0) (hpl : s.pl = true)
    (hg : (s.ev g).asFn = some (gf, caps)) (hseq : SeqD P gf (caps.map fun t => .one (.c t.cl)) xs) (h0 : s.Sub (S 0 st0)) (hn : ∀ k st, (S k st).n = s.n) (hN : s.n ≤ 1000) (hps : ∀ p ∈ ps.toList, p < s.n) (hxs : ∀ ds ∈ xs, ds.length = ps.size)
    (hok : CallOkM ms ns none)
    (hround : ∀ k ds st, xs[k]? = some ds → Inv k st → DW P assign ((S k st).round ms ns ps.toList ds) (thenD (fun s1 => DW P body s1 (roundQ ms ns (S k st) (fun s' => ∃ st', Inv (k + 1) st' ∧ s'.Sub (S (k + 1) st')) Q)) (fun _ _ => False)))
    (hdone : ∀ st, Inv xs.length st → Q .normal (S xs.length st)) : DW P (.rangeFunc g ps assign body) s Q := by
  rintro X a w ⟨E, hE⟩
  have hro : X.ro = none := hE.pl hpl
  rw [hro]
  obtain ⟨captured, hfv, hcs, hcv⟩ := asFn_ok hg (hE.ev g)
  obtain ⟨hmk, Ds, hnd, hds, hDs⟩ := hE.defers
  have hXw : X.w.heap.size ≤ w.heap.size := hE.wi.turn.size
  have hNB := NB_big
  refine wpIn_rangeFunc (F := Fence.wide) ?_
  intro fn _
  obtain ⟨rec, hrec⟩ : ∃ rec : LoopState → Option Code → Loop, rec = fun st pe => { state := st, pending := pe, fn, tmps := a.tmps, params := ps, assign, body, defers := w.heap.size } := ⟨_, rfl⟩
  obtain ⟨W1, hW1⟩ : ∃ W1, (w.alloc (.deferred (some []))).alloc (.loop (rec .ready none)) = W1 := ⟨_, rfl⟩
  have hsz1 : W1.heap.size = w.heap.size + 2 := by rw [← hW1]; simp
  have hL1 : W1.heap[w.heap.size + 1]? = some (.loop (rec .ready none)) := by
    rw [← hW1]; have := World.alloc_heap_new (w.alloc (.deferred (some []))) (.loop (rec .ready none)); rwa [World.size_alloc] at this
  have hK1 : W1.heap[w.heap.size]? = some (.deferred (some [])) := by
    rw [← hW1]; exact (Below.heap_alloc _ _ _ (by simp)).trans (World.alloc_heap_new w _)
  have hush1 : Hush w.heap.size w W1 := by rw [← hW1]; exact (Hush.alloc _ (Nat.le_refl _)).trans (Hush.alloc _ (by simp))
  have hDlt : ∀ D ∈ Ds, D < w.heap.size := fun D hD => (Array.getElem?_eq_some_iff.1 (hDs D hD).2).1
  have hDs1 : ∀ D ∈ w.heap.size :: Ds, W1.heap[D]? = some (.deferred (some [])) := fun D hD => by
    rcases List.mem_cons.1 hD with rfl | hD
    · exact hK1
    · exact (hush1.old D (hDlt D hD)).trans (hDs D hD).2
  have hnd1 : (w.heap.size :: Ds).Nodup := List.nodup_cons.2 ⟨fun h => by have := hDlt _ h; omega, hnd⟩
  have hDlt1 : ∀ D ∈ w.heap.size :: Ds, D < w.heap.size + 1 := fun D hD => by
    rcases List.mem_cons.1 hD with rfl | hD
    · omega
    · have := hDlt D hD; omega
  have hDge1 : ∀ D ∈ w.heap.size :: Ds, X.mrk ≤ D := fun D hD => by
    rcases List.mem_cons.1 hD with rfl | hD
    · exact Nat.le_trans hmk hXw
    · exact (hDs D hD).1
  have hlat1 := hush1.later hE.wi.kok
  have hkok1 : KOk W1 E.K := hE.wi.kok.wide hlat1.keep fun b o hb => by rw [(hlat1.keep b o hb).2]; exact hE.wi.kok b o hb
  have hit := hseq.2 W1 E.K captured hkok1 (by simpa using hcs) (fun j d v h1 h2 => by
    rw [List.getElem?_map] at h1
    cases hc : caps[j]? with
    | none => rw [hc] at h1; cases h1
    | some t => rw [hc] at h1; injection h1 with h1; subst h1; exact .one _ _ (.c _ _ ((hcv j t v hc h2).cl.mono hlat1.keep)))
  refine ⟨w.heap.size + 1, [{ target := .collected w.heap.size, args := #[] }], W1, { target := .fn (.func gf) captured, args := #[.func (.yield (w.heap.size + 1)) #[] #[]] }, W1, gf,
    #[.func (.yield (w.heap.size + 1)) #[] #[]] ++ captured, W1, ?_, ?_, fun _ _ => trivial, ?_, fun h => (by cases h), ?_⟩
  · rw [← hW1, hrec]; exact run_enterLoop_outer _ _ _ _ _
  · have h := resolve_value (P := P) a.eval g #[.const (.func (.yield (w.heap.size + 1)) #[] #[])] #[] 0 gf captured hfv W1
    simpa [Act.eval] using h
  · exact plainF_ok hseq.1 _ W1
  let Jk : Nat → World → KSet → Prop := fun k W L => ∃ st, Inv k st ∧ ∃ E', RelE X (S k st) E' { a with defers := [] } W ∧ (∀ b o, L b o → E'.K b o) ∧ (∀ b o, E.K b o → E'.K b o ∧ W.cell? ⟨b, o, none⟩ = W1.cell? ⟨b, o, none⟩) ∧ W.heap[w.heap.size + 1]? = some (.loop (rec .ready none)) ∧
    ∀ D ∈ w.heap.size :: Ds, W.heap[D]? = some (.deferred (some []))
  let Jx : World → Prop := fun W => ∃ c E' s', RelE X s' E' { a with defers := [] } W ∧ W.heap[w.heap.size + 1]? = some (.loop (rec .done (some c))) ∧ (∀ D ∈ w.heap.size :: Ds, W.heap[D]? = some (.deferred (some []))) ∧
    ∀ a' W', Rel X s' a' W' → c.wpIn Fence.wide 0 P (fun e a w => ∃ s'', Q e s'' ∧ Rel X s'' a w) a' W'
  let J : Option Nat → World → KSet → Prop := fun g W L => match g with | some k => Jk k W L | none => Jx W
  have fin : ∀ {s' : DS} {E' : Env} {W : World} (o : Loop), RelE X s' E' { a with defers := [] } W → W.heap[w.heap.size + 1]? = some (.loop o) → (∀ D ∈ w.heap.size :: Ds, W.heap[D]? = some (.deferred (some []))) → ∀ o' : Loop,
      Rel X s' { a with defers := [{ target := .collected w.heap.size, args := #[] }] ++ a.defers } (W.putObj (w.heap.size + 1) (.loop o')) := fun o h1 h2 h3 o' => by
    refine ⟨_, h1.hush (Hush.putObj _ (by omega) h2 (by simp)) rfl ⟨hmk, w.heap.size :: Ds, hnd1, by simp [hds], fun D hD => ⟨hDge1 D hD, ?_⟩⟩⟩
    exact (World.putObj_heap_other (by have := hDlt1 D hD; omega)).trans (h3 D hD)
  have nil : ∀ W, DefOK X [] W := fun W => DefOK.nil _ _ hmk
  refine (hit (w.heap.size + 1) J (by omega) ?_ ?_ ?_).mono ?_
  · rintro g A B L L' hJ hu hL
    cases g with
    | some k =>
      obtain ⟨st, hi, E', h1, h0, h2, h3, h4⟩ := hJ
      have hw : Wider A B E' { E' with K := fun b o => E'.K b o ∨ (A.heap.size ≤ b ∧ (B.cell? ⟨b, o, none⟩).isSome = true) } := ⟨fun _ _ h => .inl h, fun _ _ h => h, rfl, rfl⟩
      have hl := hu.later h1.wi.kok
      refine ⟨st, hi, _, h1.hushW (hu.mono (by omega)) hw rfl (nil _), fun b o hb => (hL b o hb).imp (h0 b o) id, fun b o hb => ⟨.inl (h2 b o hb).1, ((hl.keep b o (h2 b o hb).1).2).trans (h2 b o hb).2⟩, (hu.old _ (by omega)).trans h3, fun D hD => (hu.old D (by have := hDlt1 D hD; omega)).trans (h4 D hD)⟩
    | none =>
      obtain ⟨c, E', s', h1, h3, h4, h5⟩ := hJ
      exact ⟨c, E', s', h1.hush (hu.mono (by omega)) rfl (nil _), (hu.old _ (by omega)).trans h3, fun D hD => (hu.old D (by have := hDlt1 D hD; omega)).trans (h4 D hD), h5⟩
  · -- one round
    rintro k ds W L va hkx ⟨st, hik, E', h1, hL, h2, h3, h4⟩ _ v1 v2
    have hlen : ds.length = ps.size := hxs _ (List.mem_of_getElem? hkx)
    have hy := run_yield (P := P) (args := va) h3 (by rw [hrec]; exact v1.trans hlen)
    have hlW : w.heap.size + 1 < W.heap.size := (Array.getElem?_eq_some_iff.1 h3).1
    let Xr : Origin := ⟨W, E'.K, callFM ms (S k st).bx E' ns, (callEnvM ms E' ns).ρ, NB, some (w.heap.size + 1), W.heap.size⟩
    have hwi : WI Xr W (callEnvM ms E' ns) (callMemM ms (S k st).bx ns) := (wi_call_m h1.wi ns hok.hns).ro _ _
    have hbase : RelE Xr ((S k st).round0 ms ns) (callEnvM ms E' ns) { tmps := a.tmps, defers := [] } W :=
      ⟨hwi, fun t => (h1.sl t).tr (renames_shf_m (ms := ms) E' ns), h1.size, DefOK.nil _ _ (Nat.le_refl _), ⟨by show (S k st).n ≤ NB; rw [hn]; omega, Nat.le_refl _⟩, fun h => (by cases h)⟩
    obtain ⟨z1, z2⟩ := zip3 ps.toList va.toList (ds.map (D.tr noName)) (by simp [v1])
    have hput := RelE.puts (ps.toList.zip (va.toList.zip (ds.map (D.tr noName)))) _ _ hbase (fun p hp => by
      obtain ⟨i, hi⟩ := List.getElem?_of_mem hp
      rw [List.getElem?_zip_eq_some, List.getElem?_zip_eq_some] at hi
      obtain ⟨g1, g2, g3⟩ := hi
      refine ⟨by show p.1 < (S k st).n; rw [hn]; exact hps _ (List.mem_of_getElem? g1), ?_⟩
      rw [List.getElem?_map] at g3
      cases hd : ds[i]? with
      | none => rw [hd] at g3; cases g3
      | some d =>
        rw [hd] at g3; injection g3 with g3
        rw [← g3]
        have hv := v2 i d p.2.1 hd (by simpa using g2)
        have hla : Later W (E0 L) W { (E0 L) with K := E'.K } := ⟨fun b o hb => ⟨hL b o hb, rfl⟩, rfl, rfl⟩
        exact VD.tr (renames_none { (E0 L) with K := E'.K } (callEnvM ms E' ns) rfl) (hv.mono hla))
    rw [z1, z2] at hput
    have htm : (((rec .ready none).params.zip va).foldl (fun tmps (p : Tmp × Value) => tmps.setIfInBounds p.1 p.2) (rec .ready none).tmps) = (ps.toList.zip va.toList).foldl (fun t p => t.setIfInBounds p.1 p.2) a.tmps := by
      rw [hrec]; exact foldl_zip _ _ _
    refine ⟨_, _, _, _, hy, ?_⟩
    have hass := hround k _ st hkx hik Xr _ W ⟨_, hput⟩
    rw [show (rec .ready none).assign = assign by rw [hrec], show (rec .ready none).body = body by rw [hrec]]
    refine roundIn_of_wpIn trivial ?_
    rw [htm]
    refine wpIn_mono hass ?_
    rintro e a1 W2 ⟨s1, hs1, E1, hr1⟩
    cases e with
    | normal =>
      have hl2 := hr1.wi.turn.loop h3 (by simp)
      refine ⟨_, run_beginRound hl2 (by rw [hrec]), ?_⟩
      have hwb := hr1.wi.both (.loop { rec .ready none with state := .busy }) h3 (by simp)
      have hub : Hush 0 W2 (W2.putObj (w.heap.size + 1) (.loop { rec .ready none with state := .busy })) := Hush.putObj _ (Nat.zero_le _) hl2 (by simp)
      have hrb : RelE ⟨W.putObj (w.heap.size + 1) (.loop { rec .ready none with state := .busy }), E'.K, callFM ms (S k st).bx E' ns, (callEnvM ms E' ns).ρ, NB, some (w.heap.size + 1), W.heap.size⟩ s1 E1 a1 (W2.putObj (w.heap.size + 1) (.loop { rec .ready none with state := .busy })) := by
        refine ⟨hwb, fun t => (hr1.sl t).mono (hub.later hr1.wi.kok), hr1.size, ?_, hr1.small, hr1.pl⟩
        obtain ⟨_, Ds2, q1, q2, q3⟩ := hr1.defers
        refine ⟨by simp, Ds2, q1, q2, fun D hD => ?_⟩
        obtain ⟨q4, q5⟩ := q3 D hD
        have q6 : W.heap.size ≤ D := q4
        exact ⟨q6, (World.putObj_heap_other (by omega)).trans q5⟩
      refine wpIn_mono (hs1 _ _ _ ⟨E1, hrb⟩) ?_
      have hbl : (W.putObj (w.heap.size + 1) (.loop { rec .ready none with state := .busy })).heap[w.heap.size + 1]? = some (.loop { rec .ready none with state := .busy }) := World.putObj_heap_same hlW
      have after : ∀ (jump : Option Code) {s4 : DS} {E4 : Env} {a4 : Act} {W4 : World}, RelE ⟨W.putObj (w.heap.size + 1) (.loop { rec .ready none with state := .busy }), E'.K, callFM ms (S k st).bx E' ns, (callEnvM ms E' ns).ρ, NB, some (w.heap.size + 1), W.heap.size⟩ s4 E4 a4 W4 →
          ∃ W5, (Instr.endRound (w.heap.size + 1) jump).run P W4 = .ok (.bool jump.isNone) W5 ∧ RelE X ((S k st).aftCallM ms ns none (.tup []) s4.bx) (aftEnvM ms E' E4 ns none) { a with defers := [] } W5 ∧
            W5.heap[w.heap.size + 1]? = some (.loop (rec (if jump.isNone then .ready else .done) jump)) ∧ (∀ D ∈ w.heap.size :: Ds, W5.heap[D]? = some (.deferred (some []))) ∧
            (∀ b o, E'.K b o → E4.K b o ∧ W5.cell? ⟨b, o, none⟩ = W.cell? ⟨b, o, none⟩) ∧ Keep W1.heap.size L W W5 := by
        intro jump s4 E4 a4 W4 h5
        have hl4 := h5.wi.turn.loop hbl (by simp)
        have hrun := run_endRound (P := P) jump hl4
        have hl4lt : w.heap.size + 1 < W4.heap.size := (Array.getElem?_eq_some_iff.1 hl4).1
        have he5 : (.loop { ({ rec .ready none with state := .busy } : Loop) with state := if jump.isNone then .ready else .done, pending := jump } : Obj) = .loop (rec (if jump.isNone then .ready else .done) jump) := by rw [hrec]
        rw [he5] at hrun
        have hw5 := (h5.wi.both (.loop (rec (if jump.isNone then .ready else .done) jump)) hbl (by simp)).ro none (W.putObj (w.heap.size + 1) (.loop (rec (if jump.isNone then .ready else .done) jump))).heap.size
        simp only [putObj_twice] at hw5
        have hu1 : Hush 0 W (W.putObj (w.heap.size + 1) (.loop (rec (if jump.isNone then .ready else .done) jump))) := Hush.putObj _ (Nat.zero_le _) h3 (by simp)
        have hra := rele_aft (h1.hush (a' := { a with defers := [] }) (Hush.putObj (.loop (rec (if jump.isNone then .ready else .done) jump)) (by omega) h3 (by simp)) rfl (nil _)) hw5 hok
        have hu4 : Hush 0 W4 (W4.putObj (w.heap.size + 1) (.loop (rec (if jump.isNone then .ready else .done) jump))) := Hush.putObj _ (Nat.zero_le _) hl4 (by simp)
        have hcell : ∀ b o, E'.K b o → E4.K b o ∧ (W4.putObj (w.heap.size + 1) (.loop (rec (if jump.isNone then .ready else .done) jump))).cell? ⟨b, o, none⟩ = W.cell? ⟨b, o, none⟩ := fun b o hb => by
          have k4 := h5.wi.kin b o hb
          refine ⟨k4, ?_⟩
          rw [((hu4.later h5.wi.kok).keep b o k4).2]
          have hblt := lt_of_cell (h1.wi.kok b o hb)
          rw [h5.wi.turn.cell (by simpa using hblt) (h5.wi.sep b o hb)]
          have hub0 : Hush 0 W (W.putObj (w.heap.size + 1) (.loop { rec .ready none with state := .busy })) := Hush.putObj _ (Nat.zero_le _) h3 (by simp)
          exact ((hub0.later h1.wi.kok).keep b o hb).2
        refine ⟨_, hrun, hra, World.putObj_heap_same hl4lt, fun D hD => ?_, hcell, ?_, fun b o hb => (hcell b o (hL b o hb)).2, fun b ob hne hob hc => ?_⟩
        · have hlt := hDlt1 D hD
          refine (World.putObj_heap_other (by omega)).trans (h5.wi.turn.loop ?_ (by simp))
          exact (World.putObj_heap_other (by omega)).trans (h4 D hD)
        · have := h5.wi.turn.size; simpa using this
        · have hne : b ≠ w.heap.size + 1 := by omega
          refine (World.putObj_heap_other hne).trans (h5.wi.turn.loop ?_ hc)
          exact (World.putObj_heap_other hne).trans hob
      have hcellJ : ∀ {E4 : Env} {W5 : World}, (∀ b o, E'.K b o → E4.K b o ∧ W5.cell? ⟨b, o, none⟩ = W.cell? ⟨b, o, none⟩) → ∀ b o, E.K b o → (aftEnvM ms E' E4 ns none).K b o ∧ W5.cell? ⟨b, o, none⟩ = W1.cell? ⟨b, o, none⟩ := fun h b o hb =>
        ⟨(h b o (h2 b o hb).1).1, (h b o (h2 b o hb).1).2.trans (h2 b o hb).2⟩
      have stop : ∀ (c : Code) {s4 : DS} {E4 : Env} {a4 : Act} {W4 : World}, RelE ⟨W.putObj (w.heap.size + 1) (.loop { rec .ready none with state := .busy }), E'.K, callFM ms (S k st).bx E' ns, (callEnvM ms E' ns).ρ, NB, some (w.heap.size + 1), W.heap.size⟩ s4 E4 a4 W4 →
          (∀ a' W', Rel X ((S k st).aftCallM ms ns none (.tup []) s4.bx) a' W' → c.wpIn Fence.wide 0 P (fun e a w => ∃ s'', Q e s'' ∧ Rel X s'' a w) a' W') →
          ∃ v w', (Instr.endRound (w.heap.size + 1) (some c)).run P W4 = .ok v w' ∧ ∃ b, Ending.returned v = .returned (.bool b) ∧ J (if b then some (k + 1) else none) w' L ∧ Keep W1.heap.size L W w' := fun c {s4 E4 a4 W4} h5 hc => by
        obtain ⟨W5, g1, g2, g3, g4, g5, g6⟩ := after (some c) h5
        exact ⟨_, W5, g1, false, rfl, ⟨c, _, _, g2, g3, g4, hc⟩, g6⟩
      rintro e a4 W4 ⟨s4, hq, E4, h5⟩
      cases e with
      | normal =>
        obtain ⟨W5, g1, g2, g3, g4, g5, g6⟩ := after none h5
        refine ⟨_, W5, g1, true, rfl, ?_, g6⟩
        obtain ⟨st', hi', hsub⟩ := hq
        obtain ⟨E5, g7, g8⟩ := g2.sub hsub
        exact ⟨st', hi', E5, g7, fun b o hb => g8 b o (g5 b o (hL b o hb)).1, fun b o hb => ⟨g8 b o (hcellJ g5 b o hb).1, (hcellJ g5 b o hb).2⟩, g3, g4⟩
      | ret => exact stop .ret h5 fun a' W' hr => wpIn_ret ⟨_, hq, hr⟩
      | exit id => exact stop (.exit id) h5 fun a' W' hr => wpIn_exit ⟨_, hq, hr⟩
      | goto t => exact stop (.goto t) h5 fun a' W' hr => wpIn_goto ⟨_, hq, hr⟩
      | panic ch => exact hq.elim
      | outgrown => exact hq.elim
    | exit id => exact hs1.elim
    | goto l => exact hs1.elim
    | ret => exact hs1.elim
    | panic ch => exact hs1.elim
    | outgrown => exact hs1.elim
  · obtain ⟨E', h1, h2⟩ := RelE.sub (a := { a with defers := [] }) ⟨hE.wi, hE.sl, hE.size, DefOK.nil _ _ hE.defers.1, hE.small, hE.pl⟩ h0
    exact ⟨st0, hi0, E', h1.hush (hush1.mono (by omega)) rfl (nil _), h2, fun b o hb => ⟨h2 b o hb, rfl⟩, hL1, hDs1⟩
  · rintro e W2 ⟨⟨v, rfl⟩, L, ⟨st, hi, E', h1, _, h2, h3, h4⟩ | ⟨c, E', s', h1, h3, h4, h5⟩⟩
    · exact ⟨none, _, by have := run_endLoop (P := P) h3 (by rw [hrec]; simp); rw [hrec] at this; exact this, S xs.length st, hdone st hi, fin _ h1 h3 h4 _⟩
    · exact ⟨some c, _, by have := run_endLoop (P := P) h3 (by rw [hrec]; simp); rw [hrec] at this; exact this, h5 _ _ (fin _ h1 h3 h4 _)⟩

end
end
end Go.Dl

/- The logic of data: an iterator's own text: slots said by data, no memory of its own; beside them what is said of the caller's world. -/
namespace Go.Dl
open Go.RowKit
noncomputable section

structure Flat (m n : Nat) (s : DS) (K : KSet) (a : Act) (w : World) : Prop where
  kok : KOk w K
  sl : ∀ t, VD w (E0 K) (s.sl t) (a.tmps.getD t undef)
  size : a.tmps.size = s.n
  small : s.n ≤ NB
  mrk : n ≤ w.heap.size
  mn : m ≤ n
  defers : ∃ Ds : List Nat, Ds.Nodup ∧ a.defers = Ds.map (fun D => { target := .collected D, args := #[] }) ∧ ∀ D ∈ Ds, m ≤ D ∧ w.heap[D]? = some (.deferred (some []))

def Ext (w : World) (K : KSet) (w' : World) (K' : KSet) : Prop := ∀ b o, K b o → K' b o ∧ w'.cell? ⟨b, o, none⟩ = w.cell? ⟨b, o, none⟩

theorem Ext.refl (w : World) (K : KSet) : Ext w K w K := fun _ _ h => ⟨h, rfl⟩
theorem Ext.trans {a b c : World} {K L M : KSet} (h : Ext a K b L) (k : Ext b L c M) : Ext a K c M := fun x o hx => ⟨(k x o (h x o hx).1).1, (k x o (h x o hx).1).2.trans (h x o hx).2⟩
theorem Ext.later {a b : World} {K L : KSet} (h : Ext a K b L) : Later a (E0 K) b (E0 L) := ⟨h, rfl, rfl⟩

def DS.flat (s : DS) : DS := { n := s.n, sl := fun t => (s.sl t).tr noName, bx := noMem, pl := false }
def DS.bare (s : DS) : DS := { n := s.n, sl := s.sl, bx := noMem, pl := false }

def IW (P : Program) (m n : Nat) (J : Option Nat → World → KSet → Prop) (ro : Option Nat) (c : Code) (s : DS) (g : Option Nat) (Q : Exit → DS → Option Nat → Prop) : Prop :=
  ∀ K a w, Flat m n s K a w → J g w K → c.wpIn (rd ro) 0 P (fun e a' w' => ∃ s' g' K', Q e s' g' ∧ Flat m n s' K' a' w' ∧ J g' w' K' ∧ Ext w K w' K') a w

def thenI (next : DS → Option Nat → Prop) (Q : Exit → DS → Option Nat → Prop) : Exit → DS → Option Nat → Prop
  | .normal, s, g => next s g
  | e, s, g => Q e s g

def inBlockI (id : Nat) (Q : Exit → DS → Option Nat → Prop) : Exit → DS → Option Nat → Prop
  | .exit id', s, g => if id' = id then Q .normal s g else Q (.exit id') s g
  | e, s, g => Q e s g

section
variable {P : Program} {m n : Nat} {J : Option Nat → World → KSet → Prop} {s : DS} {g ro : Option Nat} {Q : Exit → DS → Option Nat → Prop}

theorem IW.mono {c : Code} {Q' : Exit → DS → Option Nat → Prop} (h : IW P m n J ro c s g Q) (hq : ∀ e s g, Q e s g → Q' e s g) : IW P m n J ro c s g Q' :=
  fun K a w hf hj => wpIn_mono (h K a w hf hj) fun _ _ _ ⟨s', g', K', h1, h2⟩ => ⟨s', g', K', hq _ _ _ h1, h2⟩

theorem iw_skip (h : Q .normal s g) : IW P m n J ro .skip s g Q := fun K _ w hf hj => wpIn_skip ⟨s, g, K, h, hf, hj, Ext.refl _ _⟩
theorem iw_exit {id : Nat} (h : Q (.exit id) s g) : IW P m n J ro (.exit id) s g Q := fun K _ w hf hj => wpIn_exit ⟨s, g, K, h, hf, hj, Ext.refl _ _⟩
theorem iw_ret (h : Q .ret s g) : IW P m n J ro .ret s g Q := fun K _ w hf hj => wpIn_ret ⟨s, g, K, h, hf, hj, Ext.refl _ _⟩

theorem iw_seq {x y : Code} (h : IW P m n J ro x s g (thenI (fun s' g' => IW P m n J ro y s' g' Q) Q)) : IW P m n J ro (.seq x y) s g Q := by
  intro K a w hf hj
  refine wpIn_seq (wpIn_mono (h K a w hf hj) ?_)
  rintro e a' w' ⟨s', g', K', h1, h2, h3, h4⟩
  cases e with
  | normal => exact wpIn_mono (h1 K' a' w' h2 h3) fun _ _ _ ⟨s2, g2, K2, q1, q2, q3, q4⟩ => ⟨s2, g2, K2, q1, q2, q3, h4.trans q4⟩
  | _ => exact ⟨s', g', K', h1, h2, h3, h4⟩

theorem iw_block {id : Nat} {c : Code} (h : IW P m n J ro c s g (inBlockI id Q)) : IW P m n J ro (.block id c) s g Q := by
  intro K a w hf hj
  refine wpIn_block (wpIn_mono (h K a w hf hj) ?_)
  rintro e a' w' ⟨s', g', K', h1, h2⟩
  cases e with
  | exit id' =>
    simp only [Exit.inBlock, inBlockI] at h1 ⊢
    split
    · rename_i he; rw [if_pos he] at h1; exact ⟨s', g', K', h1, h2⟩
    · rename_i he; rw [if_neg he] at h1; exact ⟨s', g', K', h1, h2⟩
  | _ => exact ⟨s', g', K', h1, h2⟩

theorem Flat.rel {K : KSet} {a : Act} {w : World} (h : Flat m n s K a w) (ro : Option Nat) : RelE ⟨w, K, fun _ _ => False, (E0 K).ρ, NB, ro, m⟩ s.bare (E0 K) a w :=
  ⟨(wi_zero w K h.kok).ro ro m, h.sl, h.size, ⟨Nat.le_trans h.mn h.mrk, h.defers⟩, ⟨h.small, Nat.le_refl _⟩, fun h => (by cases h)⟩

theorem Flat.ev {K : KSet} {a : Act} {w : World} (h : Flat m n s K a w) (x : Operand) : VD w (E0 K) (s.ev x) (a.eval x) := (h.rel none).ev x

theorem iw_cond {c : Operand} {x y : Code} {t : Bool} (hc : s.ev c = .one (.c (.lit (.bool t)))) (ht : t = true → IW P m n J ro x s g Q) (hf : t = false → IW P m n J ro y s g Q) : IW P m n J ro (.cond c x y) s g Q := by
  intro K a w hfl hj
  have hv := hfl.ev c
  rw [hc] at hv
  exact wpIn_cond_split hv.lit (fun h => ht h K a w hfl hj) (fun h => hf h K a w hfl hj)

theorem flat_after {K : KSet} {a : Act} {w : World} (hf : Flat m n s K a w) (hJ : Stab n J) (hj : J g w K) {ro : Option Nat} {s' : DS} {a' : Act} {w' : World} (h : Rel ⟨w, K, fun _ _ => False, (E0 K).ρ, NB, ro, m⟩ s' a' w') :
    ∃ K', Flat m n s'.flat K' a' w' ∧ J g w' K' ∧ Ext w K w' K' := by
  obtain ⟨E', h⟩ := h
  have hb := h.wi.turn.below
  refine ⟨E'.K, ⟨h.wi.kok, fun t => VD.tr (renames_none E' (E0 E'.K) rfl) (h.sl t), h.size, h.small.1, Nat.le_trans hf.mrk hb.size, hf.mn, h.defers.2⟩, ?_, fun b o hk => ?_⟩
  · refine hJ g w w' K E'.K hj ⟨hb.os, hb.tape, hb.output, hb.size, fun b hlt => hb.block b (Nat.lt_of_lt_of_le hlt hf.mrk), fun b arr e m hc => hb.block b (Array.getElem?_eq_some_iff.1 hc).1⟩ fun b o hk => ?_
    rcases Nat.lt_or_ge b w.heap.size with hlt | hge
    · exact .inl (h.wi.kold b o hlt id hk)
    · exact .inr ⟨hge, h.wi.kok b o hk⟩
  · have hk' := h.wi.kin b o hk
    exact ⟨hk', hb.cell (p := ⟨b, o, none⟩) (lt_of_cell (hf.kok b o hk))⟩

theorem iw_pure {c : Code} {Q' : Exit → DS → Prop} (hJ : Stab n J) (h : DW P c s.bare Q') (hq : ∀ e s', Q' e s' → Q e s'.flat g) : IW P m n J ro c s g Q := by
  intro K a w hf hj
  refine wpIn_mono (h _ a w ⟨_, hf.rel ro⟩) ?_
  rintro e a' w' ⟨s', h1, h2⟩
  obtain ⟨K', h3, h4, h5⟩ := flat_after hf hJ hj h2
  exact ⟨_, g, K', hq _ _ h1, h3, h4, h5⟩

theorem iw_pureQ {c : Code} (hJ : Stab n J) (h : DW P c s.bare (fun e s' => Q e s'.flat g)) : IW P m n J ro c s g Q := iw_pure hJ h fun _ _ h => h

def DS.FSub (s s' : DS) : Prop := s.n = s'.n ∧ ∀ t, s'.sl t = .any ∨ DLe (s.sl t) (s'.sl t)

theorem fsub_kn {s : DS} {N : Nat} {sls : List (Nat × D)} (hn : s.n = N) (h1 : AllS s sls) : s.FSub (kn N sls noMem) := ⟨hn, AllS.get h1⟩

theorem Flat.sub {s' : DS} {K : KSet} {a : Act} {w : World} (h : Flat m n s K a w) (hs : s.FSub s') : Flat m n s' K a w :=
  ⟨h.kok, fun t => by
    rcases hs.2 t with e | e
    · rw [e]; exact .any _
    · exact e w (E0 K) _ (h.sl t), h.size.trans hs.1, hs.1 ▸ h.small, h.mrk, h.mn, h.defers⟩

theorem iw_loop {α : Type} {c : Code} (S : α → DS) (G : α → Option Nat) (Inv : α → Prop) (μ : α → Nat) (x0 : α) (h0 : s.FSub (S x0)) (hg : g = G x0) (hi : Inv x0)
    (round : ∀ x, Inv x → IW P m n J ro c (S x) (G x) (thenI (fun s' g' => ∃ x', Inv x' ∧ μ x' < μ x ∧ s'.FSub (S x') ∧ g' = G x') Q)) : IW P m n J ro (.loop c) s g Q := by
  intro K a w hf hj b k cs hro hb hroom
  have key : ∀ q x, μ x = q → Inv x → ∀ K a w, Flat m n (S x) K a w → J (G x) w K →
      ∃ e a' w', (∃ s' g' K', Q e s' g' ∧ Flat m n s' K' a' w' ∧ J g' w' K' ∧ Ext w K w' K') ∧ ArrivesIn (Machine.fenced P (rd ro)) P (lone (b.atR a (.code c :: .inLoop c :: k)) cs w) b k cs e a' w' := by
    intro q
    induction q using Nat.strongRecOn with
    | _ q ih =>
      intro x hm hI K a w hf hj
      obtain ⟨e, a₁, w₁, ⟨s₁, g₁, K₁, hq, hf₁, hj₁, he₁⟩, harr⟩ := round x hI K a w hf hj b (.inLoop c :: k) cs hro hb hroom
      cases e with
      | normal =>
        obtain ⟨x', hI₁, hlt, hsub, rfl⟩ := hq
        obtain ⟨e₂, a₂, w₂, ⟨s₂, g₂, K₂, q1, q2, q3, q4⟩, harr₂⟩ := ih (μ x') (hm ▸ hlt) x' rfl hI₁ K₁ a₁ w₁ (hf₁.sub hsub) hj₁
        exact ⟨e₂, a₂, w₂, ⟨s₂, g₂, K₂, q1, q2, q3, he₁.trans q4⟩, .of_steps (StepsIn.trans harr (.one (fenced_calm hb hroom rfl) stepR_inLoop)) harr₂⟩
      | exit id => exact ⟨_, a₁, w₁, ⟨s₁, g₁, K₁, hq, hf₁, hj₁, he₁⟩, .pass (x := .inLoop c) rfl (fun _ _ => .inl (by simp)) harr⟩
      | goto l => exact ⟨_, a₁, w₁, ⟨s₁, g₁, K₁, hq, hf₁, hj₁, he₁⟩, .pass (x := .inLoop c) rfl (fun _ _ => .inl (by simp)) harr⟩
      | ret => exact ⟨_, a₁, w₁, ⟨s₁, g₁, K₁, hq, hf₁, hj₁, he₁⟩, .pass (x := .inLoop c) rfl (fun _ _ => .inl (by simp)) harr⟩
      | panic ch => exact ⟨_, a₁, w₁, ⟨s₁, g₁, K₁, hq, hf₁, hj₁, he₁⟩, .pass (x := .inLoop c) rfl (fun _ _ => .inl (by simp)) harr⟩
      | outgrown => exact ⟨_, a₁, w₁, ⟨s₁, g₁, K₁, hq, hf₁, hj₁, he₁⟩, .pass (x := .inLoop c) rfl (fun _ _ => .inl (by simp)) harr⟩
  obtain ⟨e, a', w', hq, harr⟩ := key _ x0 rfl hi K a w (hf.sub h0) (hg ▸ hj)
  exact ⟨e, a', w', hq, .of_steps (.one (fenced_calm hb hroom rfl) stepR_loop) harr⟩

/-! ### A region in which yield is called -/

def Yields (P : Program) (m n : Nat) (J : Option Nat → World → KSet → Prop) (l : Nat) (xs : List (List D)) : Prop :=
  l < m ∧ ∀ (k : Nat) ds W L (va : Array Value), xs[k]? = some ds → J (some k) W L → n ≤ W.heap.size → va.size = ds.length → (∀ (j : Nat) d v, ds[j]? = some d → va[j]? = some v → VD W (E0 L) d v) →
      YieldAt Fence.wide 0 P l va W fun e W' => ∃ b, e = .returned (.bool b) ∧ J (if b then some (k + 1) else none) W' L ∧ Keep m L W W'

def yieldD (P : Program) (ops : List Oper) (l : Nat) (xs : List (List D)) (o : Oper) (s : DS) (g : Option Nat) (K : DS → Option Nat → Prop) : Prop :=
  ∃ t, wantD ops s.bare o = some t ∧ (t = false → K (s.put o.dst (.tup [])) g) ∧
    (t = true → ∃ f args tys k ds, o.op = .call { callee := .value f, args := args, argTypes := tys } ∧ s.ev f = .one (.c (.lit (.func (.yield l) #[] #[]))) ∧ g = some k ∧ xs[k]? = some ds ∧ DLeL (args.toList.map s.ev) ds ∧
      ∀ b : Bool, K (s.put o.dst (.one (.c (.lit (.bool b))))) (if b then some (k + 1) else none))

theorem Flat.put {K : KSet} {a : Act} {w w' : World} (h : Flat m n s K a w) (hl : ∀ b o, K b o → w'.cell? ⟨b, o, none⟩ = w.cell? ⟨b, o, none⟩) (hsz : w.heap.size ≤ w'.heap.size)
    (hD : ∀ D : Nat, m ≤ D → w.heap[D]? = some (.deferred (some [])) → w'.heap[D]? = some (.deferred (some []))) {dst : Option Nat} (hd : ∀ d, dst = some d → d < s.n) {d : D} {v : Value} (hv : VD w' (E0 K) d v) : Flat m n (s.put dst d) K (a.put dst v) w' := by
  have hla : Later w (E0 K) w' (E0 K) := ⟨fun b o hb => ⟨hb, hl b o hb⟩, rfl, rfl⟩
  refine ⟨h.kok.move hl, fun t => ?_, ?_, by rw [put_n]; exact h.small, Nat.le_trans h.mrk hsz, h.mn, ?_⟩
  · rw [getD_put a dst v t (fun d he => by rw [h.size]; exact hd d he)]
    cases dst with
    | none => simpa [DS.put] using (h.sl t).mono hla
    | some d' =>
      by_cases he : t = d'
      · subst he; simpa [DS.put] using hv
      · have : ¬ (some d' = some t) := by simpa using fun e => he e.symm
        simp only [DS.put, if_neg he, if_neg this]
        exact (h.sl t).mono hla
  · rw [show (a.put dst v).tmps.size = a.tmps.size from by cases dst <;> simp [Act.put], h.size, put_n]
  · obtain ⟨Ds, h1, h2, h3⟩ := h.defers
    exact ⟨Ds, h1, by rw [show (a.put dst v).defers = a.defers from by cases dst <;> rfl]; exact h2, fun D hDs => ⟨(h3 D hDs).1, hD D (h3 D hDs).1 (h3 D hDs).2⟩⟩

theorem roundIn_rd {ro : Option Nat} {l : Nat} {f : FuncId} {tmps : Array Value} {assign body : Code} {w : World} {R : Ending → World → Prop} (h : RoundIn Fence.wide 0 P l f tmps assign body w R) : RoundIn (rd ro) (0 - 1) P l f tmps assign body w R := by
  cases ro with
  | none => exact h
  | some l => exact h

theorem walk_pre {Q' : Exit → Act → World → Prop} {ops r : List Oper} {X : Origin} {N : Nat} {K : DS → Prop} (hK : ∀ s a w, s.n = N → K s → Rel X s a w → wpListIn (rd X.ro) 0 P ops.toArray Q' r a w) : ∀ (l : List Oper) (s : DS) (a : Act) (w : World), dstB l N = true → s.n = N → Rel X s a w →
    walkS P ops l s K → wpListIn (rd X.ro) 0 P ops.toArray Q' (l ++ r) a w
  | [], s, a, w, _, hn, hr, h => hK s a w hn h hr
  | o :: l, s, a, w, hb, hn, hr, h => by
    obtain ⟨h0, h1, h2⟩ := dstB_cons hb
    refine wpListIn_step fun K' hK' => ?_
    simp only [walkS, guardS] at h
    split at h
    · rename_i t ht
      rw [wantD_ok ht hr]
      split at h
      · rename_i h3
        rw [if_pos h3]
        refine wpIn_of_wp h0 (Oper.wp_mono ?_ (h (fun d hd => by rw [hn]; exact h1 d hd) X a w hr Q'))
        rintro a' w' ⟨s', ⟨hn', hs'⟩, hr'⟩
        exact hK' _ _ (walk_pre hK l s' a' w' h2 (hn'.trans hn) hr' hs')
      · rename_i h3
        rw [if_neg h3]
        refine ⟨fun f _ => rd_fn X.ro f, ?_⟩
        exact hK' _ _ (walk_pre hK l _ _ w h2 (by rw [put_n]; exact hn) (putAny hr (fun d hd => by rw [hn]; exact h1 d hd)) h)
    · exact h.elim

theorem dstB_sub {l l' : List Oper} {N : Nat} (h : dstB l N = true) (hs : ∀ x ∈ l', x ∈ l) : dstB l' N = true :=
  List.all_eq_true.2 fun x hx => List.all_eq_true.1 h x (hs x hx)

theorem yield_ok {l : Nat} {xs : List (List D)} (hY : Yields P m n J l xs) {ops r : List Oper} {o : Oper} {N : Nat} {ro : Option Nat} {Kp : DS → Option Nat → Prop} {Q' : Exit → Act → World → Prop} {K0 : KSet} {w0 : World}
    (hK : ∀ s g K a w, s.n = N → Kp s g → Flat m n s K a w → J g w K → Ext w0 K0 w K → wpListIn (rd ro) 0 P ops.toArray Q' r a w) {K : KSet} {a : Act} {w : World} (hb : dstB [o] N = true) (hn : s.n = N) (hf : Flat m n s K a w) (hj : J g w K) (he : Ext w0 K0 w K)
    (h : yieldD P ops l xs o s g Kp) : wpListIn (rd ro) 0 P ops.toArray Q' (o :: r) a w := by
  obtain ⟨h0, h1, _⟩ := dstB_cons hb
  have hd : ∀ d, o.dst = some d → d < s.n := fun d hd => by rw [hn]; exact h1 d hd
  refine wpListIn_step fun K' hK' => ?_
  obtain ⟨t, ht, hfa, htr⟩ := h
  have hrel := hf.rel ro
  rw [wantD_ok ht ⟨_, hrel⟩]
  cases t with
  | false =>
    simp only [Bool.false_eq_true, if_false]
    refine ⟨fun f _ => rd_fn ro f, hK' _ _ (hK _ g K _ w (by rw [put_n]; exact hn) (hfa rfl) (hf.put (fun _ _ _ => rfl) (Nat.le_refl _) (fun _ _ h => h) hd ?_) hj he)⟩
    exact .tup [] #[] rfl (fun j d v h1 _ => by simp at h1)
  | true =>
    simp only [if_true]
    obtain ⟨f, args, tys, k, ds, ho, hfv, rfl, hx, hle, hb2⟩ := htr rfl
    have hv := hf.ev f
    rw [hfv] at hv
    have hfe : a.eval f = .func (.yield l) #[] #[] := hv.lit
    obtain ⟨hlen, hget⟩ := hle.get
    obtain ⟨fn, tmps, assign, body, hy, hR⟩ := hY.2 k ds w K (args.map a.eval) hx hj hf.mrk (by rw [← hlen]; simp) (fun j d v g1 g2 => by
      obtain ⟨d0, g3, g4⟩ := hget j d g1
      refine g4 w _ v ?_
      rw [List.getElem?_map] at g3
      rw [Array.getElem?_map] at g2
      cases hc : args[j]? with
      | none => rw [hc] at g2; cases g2
      | some x =>
        rw [Array.getElem?_toList] at g3
        rw [hc] at g2 g3
        injection g2 with g2; injection g3 with g3
        rw [← g2, ← g3]; exact hf.ev x)
    have hrun : (execOp a.eval o).run P w = .ok (.round l fn tmps assign body) w := by
      unfold execOp
      simp only [ho, Sem.run_bind]
      have hres : (resolve a.eval { callee := .value f, args := args, argTypes := tys } o.type).run P w = .ok { target := .fn (.yield l) #[], args := args.map a.eval } w := by simp [resolve, hfe, Deferred.ofValue]
      rw [hres]
      simp only [Result.andThen_ok, invoke]
      exact hy
    refine ⟨fun f _ => rd_fn ro f, ?_⟩
    rw [rd_round, Oper.semAt_eq ro _ o h0, hrun, Oper.uponIn_round]
    refine ⟨fun e => (by rw [rd_depth] at e; cases e), (roundIn_rd hR).mono ?_⟩
    rintro e W' ⟨b, rfl, q1, q2⟩
    have hln := hY.1
    exact hK' _ _ (hK _ _ K _ W' (by rw [put_n]; exact hn) (hb2 b) (hf.put q2.cells q2.size (fun D hD hh => q2.others D _ hD hh (by simp)) hd (.one _ _ (.c _ _ (.lit _ rfl)))) q1
      (he.trans fun b o hb => ⟨hb, q2.cells b o hb⟩))

theorem iw_region (hJ : Stab n J) {l : Nat} {xs : List (List D)} (hY : Yields P m n J l xs) {id : Nat} {ops : List Oper} (i : Nat) {o : Oper} (ho : ops[i]? = some o) (hb : dstB ops s.n = true)
    (h : wk P (ops.map (·.dst)) (tagS (ops.take i)) s.bare fun s1 => yieldD P ops l xs o s1.flat g fun s2 g2 => wk P (ops.map (·.dst)) (tagS (ops.drop (i + 1))) s2.bare fun s3 => Q .normal s3.flat g2) : IW P m n J ro (.region id ops.toArray false) s g Q := by
  intro K a w hf hj
  have hi : i < ops.length := (List.getElem?_eq_some_iff.1 ho).1
  have hsp : ops = ops.take i ++ (o :: ops.drop (i + 1)) := by
    have : o = ops[i] := by rw [List.getElem?_eq_getElem hi] at ho; injection ho with ho; exact ho.symm
    rw [this, ← List.drop_eq_getElem_cons hi, List.take_append_drop]
  have hol : o ∈ ops := List.mem_of_getElem? ho
  refine wpIn_region_lit ?_
  conv => arg 6; rw [hsp]
  refine walk_pre (X := ⟨w, K, fun _ _ => False, (E0 K).ρ, NB, ro, m⟩) (N := s.n) (fun s1 a1 w1 hn1 hs1 hr1 => ?_) (ops.take i) s.bare a w (dstB_sub hb fun x hx => List.mem_of_mem_take hx) rfl ⟨_, hf.rel ro⟩ (wk_walkS _ _ h)
  obtain ⟨K1, q1, q2, q3⟩ := flat_after hf hJ hj hr1
  refine yield_ok (s := s1.flat) (N := s.n) (w0 := w) (K0 := K) hY (fun s2 g2 K2 a2 w2 hn2 hs2 hf2 hj2 he2 => ?_) (dstB_sub hb fun x hx => by simp at hx; exact hx ▸ hol) hn1 q1 q2 q3 hs1
  have := walk_pre (X := ⟨w2, K2, fun _ _ => False, (E0 K2).ρ, NB, ro, m⟩) (N := s.n) (r := []) (Q' := fun e a' w' => ∃ s' g' K', Q e s' g' ∧ Flat m n s' K' a' w' ∧ J g' w' K' ∧ Ext w K w' K') (fun s3 a3 w3 _ hs3 hr3 => ?_) (ops.drop (i + 1)) s2.bare a2 w2 (dstB_sub hb fun x hx => List.mem_of_mem_drop hx) hn2 ⟨_, hf2.rel ro⟩ (wk_walkS _ _ hs2)
  · rw [List.append_nil] at this; exact this
  · obtain ⟨K3, p1, p2, p3⟩ := flat_after hf2 hJ hj2 hr3
    exact wpListIn_nil ⟨_, g2, K3, hs3, p1, p2, he2.trans p3⟩

def iterQ (N : Nat) : Exit → DS → Option Nat → Prop
  | .normal, _, g | .ret, _, g => g = some N ∨ g = none
  | _, _, _ => False

theorem seqD_intro {f : FuncId} {fn : Func} {c : Code} {caps : List D} {xs : List (List D)} (hp : Program.plainF P f = true) (hf : P.funcs[f]? = some fn) (hb : fn.body = some c) (hres : fn.results.toList = []) (hn : caps.length + 1 ≤ fn.ntmps) (hN : fn.ntmps ≤ NB)
    (h : ∀ (n l : Nat) (J : Option Nat → World → KSet → Prop), Stab n J → Yields P n n J l xs → IW P n n J none c (initE fn.ntmps (.one (.c (.lit (.func (.yield l) #[] #[]))) :: caps) noMem) (some 0) (iterQ xs.length)) : SeqD P f caps xs := by
  refine ⟨hp, fun w K vs hk hl hv l J hlw hJ hY h0 => ?_⟩
  refine callsIn_of_wp_marks hf hb trivial ?_
  have hflat : Flat w.heap.size w.heap.size (initE fn.ntmps (.one (.c (.lit (.func (.yield l) #[] #[]))) :: caps) noMem) K { tmps := (#[Value.func (.yield l) #[] #[]] ++ vs) ++ Array.replicate (fn.ntmps - (#[Value.func (.yield l) #[] #[]] ++ vs).size) undef, defers := [] } w := by
    refine ⟨hk, fun t => ?_, ?_, hN, Nat.le_refl _, Nat.le_refl _, ⟨[], .nil, rfl, fun _ h => by cases h⟩⟩
    · simp only [initE]
      cases t with
      | zero =>
        have h3 : ((#[Value.func (.yield l) #[] #[]] ++ vs) ++ Array.replicate (fn.ntmps - (#[Value.func (.yield l) #[] #[]] ++ vs).size) undef).getD 0 undef = .func (.yield l) #[] #[] := by
          simp [Array.getElem?_append]
        rw [h3]
        exact .one _ _ (.c _ _ (.lit _ rfl))
      | succ t =>
        by_cases ht : t < caps.length
        · have h1 : caps[t]? = some (caps.getD t .any) := by simp [List.getD, ht]
          have h2 : vs[t]? = some (vs[t]'(by omega)) := Array.getElem?_eq_getElem (by omega)
          have h3 : ((#[Value.func (.yield l) #[] #[]] ++ vs) ++ Array.replicate (fn.ntmps - (#[Value.func (.yield l) #[] #[]] ++ vs).size) undef).getD (t + 1) undef = vs[t]'(by omega) := by
            have : t < vs.size := by omega
            simp [Array.getElem?_append, this]
          rw [h3]
          simpa using hv t _ _ h1 h2
        · have : (D.one (.c (.lit (.func (.yield l) #[] #[]))) :: caps).getD (t + 1) .any = .any := by simp [List.getD, List.getElem?_eq_none (Nat.le_of_not_lt ht)]
          rw [this]; exact .any _
    · simp [initE]; omega
  refine wpIn_mono (h w.heap.size l J hJ ⟨hlw, hY⟩ K _ w hflat h0) ?_
  rintro e a' w' ⟨s', g', K', hq, hf', hj', _⟩
  have key : ∀ (Ds : List Nat) (w' : World), Ds.Nodup → J g' w' K' → (∀ D ∈ Ds, w.heap.size ≤ D ∧ w'.heap[D]? = some (.deferred (some []))) → (g' = some xs.length ∨ g' = none) →
      LeavesInM Fence.wide 0 P fn a'.tmps (fun e W' => (∃ v, e = .returned v) ∧ ∃ L, J (some xs.length) W' L ∨ J none W' L) (Ds.map (fun D => { target := .collected D, args := #[] })) .returning w' := by
    intro Ds
    induction Ds with
    | nil =>
      intro w' _ hj _ hg
      refine ⟨.tuple #[], ?_, ⟨_, rfl⟩, K', ?_⟩
      · rw [results_eq]
        have : fn.results = #[] := by rw [← Array.toList_eq_nil_iff]; exact hres
        rw [this]; simp
      · rcases hg with rfl | rfl
        · exact .inl hj
        · exact .inr hj
    | cons D Ds ih =>
      intro w' hnd hj hD hg
      obtain ⟨h1, h2⟩ := List.nodup_cons.1 hnd
      obtain ⟨h3, h4⟩ := hD D (by simp)
      refine ⟨by simp, .inl ⟨D, _, rfl, run_takeDeferred h4, ih _ h2 (hJ _ _ _ K' K' hj (Hush.putObj _ h3 h4 (by simp)) fun _ _ h => .inl h) (fun D' hD' => ?_) hg⟩⟩
      obtain ⟨g1, g2⟩ := hD D' (by simp [hD'])
      exact ⟨g1, (World.putObj_heap_other (show D' ≠ D from fun e => h1 (by rw [← e]; exact hD'))).trans g2⟩
  obtain ⟨Ds, hnd, hds, hD⟩ := hf'.defers
  have hpost : iterQ xs.length e s' g' → e = .normal ∨ e = .ret → LeavesInM Fence.wide 0 P fn a'.tmps (fun e W' => (∃ v, e = .returned v) ∧ ∃ L, J (some xs.length) W' L ∨ J none W' L) a'.defers .returning w' := fun hq he => by
    rw [hds]
    refine key Ds w' hnd hj' hD ?_
    rcases he with rfl | rfl <;> exact hq
  cases e with
  | normal => exact hpost hq (.inl rfl)
  | ret => exact hpost hq (.inr rfl)
  | _ => exact hq.elim

@[go_sem] theorem thenI_normal {next : DS → Option Nat → Prop} {s : DS} {g : Option Nat} : thenI next Q .normal s g = next s g := rfl
@[go_sem] theorem thenI_ret {next : DS → Option Nat → Prop} {s : DS} {g : Option Nat} : thenI next Q .ret s g = Q .ret s g := rfl
@[go_sem] theorem thenI_exit {next : DS → Option Nat → Prop} {s : DS} {g : Option Nat} {i : Nat} : thenI next Q (.exit i) s g = Q (.exit i) s g := rfl
@[go_sem] theorem inBlockI_normal {s : DS} {g : Option Nat} {i : Nat} : inBlockI i Q .normal s g = Q .normal s g := rfl
@[go_sem] theorem inBlockI_ret {s : DS} {g : Option Nat} {i : Nat} : inBlockI i Q .ret s g = Q .ret s g := rfl
@[go_sem] theorem inBlockI_exit {s : DS} {g : Option Nat} {i j : Nat} : inBlockI i Q (.exit j) s g = if j = i then Q .normal s g else Q (.exit j) s g := rfl
attribute [go_sem] DS.flat DS.bare noName

end
end
end Go.Dl

/- The logic of data: a loop over a function in the text of an iterator. -/
namespace Go.Dl
open Go.RowKit
noncomputable section

section
variable {P : Program} {m n : Nat} {J : Option Nat → World → KSet → Prop} {s : DS} {Q : Exit → DS → Option Nat → Prop}

theorem Hush.ext {q : Nat} {w w' : World} (c : Hush q w w') {K K' : KSet} (hk : KOk w K) (hK : ∀ b o, K b o → K' b o) : Ext w K w' K' := fun b o hb => by
  obtain ⟨arr, e, m, h⟩ := cells_of_cell (hk b o hb)
  exact ⟨hK b o hb, World.cell?_of_block (w := w) (a := ⟨b, o, none⟩) (c.cells b arr e m h)⟩

end
end
end Go.Dl

/- The logic of data: memory given up for good, for simp; steps of an iterator's text behind which less is known. -/
namespace Go.Dl
open Go.RowKit
noncomputable section

theorem sub_frz {s : DS} (n sz : Nat) (cs : List (List C)) (js : Rows) (hpos : 0 < sz) (hn : s.bx n = some (cs.map (List.map T.c) ++ js)) (hz : ∀ r ∈ cs, r.length = sz) : s.Sub (s.frz n sz cs) :=
  fun _ _ _ ⟨_, hE⟩ => hE.frz hpos hn hz

theorem sub_frz1 {s : DS} (n : Nat) (cs : List C) (hpos : 0 < cs.length) (hn : s.bx n = some [cs.map T.c]) : s.Sub (s.frz n cs.length [cs]) :=
  sub_frz n cs.length [cs] [] hpos (by simpa using hn) (by simp)

theorem dw_frz1 {P : Program} {c : Code} {s : DS} {Q : Exit → DS → Prop} (n : Nat) (cs : List C) (hpos : 0 < cs.length) (hn : s.bx n = some [cs.map T.c]) (h : DW P c (s.frz n cs.length [cs]) Q) : DW P c s Q :=
  dw_weaken (sub_frz1 n cs hpos hn) h

theorem frz_sl (s : DS) (n sz : Nat) (cs : List (List C)) (t : Nat) : (s.frz n sz cs).sl t = (s.sl t).frz n sz cs := rfl
theorem frz_bx (s : DS) (n sz : Nat) (cs : List (List C)) (k : Nat) : (s.frz n sz cs).bx k = if k = n then none else (s.bx k).map (List.map (T.frzAll n sz cs)) := rfl

section
variable {P : Program} {m n : Nat} {J : Option Nat → World → KSet → Prop} {s : DS} {g ro : Option Nat} {Q : Exit → DS → Option Nat → Prop}

end

theorem sub_nilAt {s : DS} (m sz : Nat) (hm : s.bx m = some [[.c (.lit (.slice none 0 0))]]) : s.Sub (s.setBx m (some [[.ex sz []]])) :=
  sub_box m hm rfl fun i r r' h1 h2 => by
    cases i with
    | succ i => simp at h1
    | zero =>
      simp at h1 h2
      subst h1; subst h2
      refine ⟨rfl, fun w E j t t' v h1 h2 hv => ?_⟩
      cases j with
      | succ j => simp at h1
      | zero =>
        simp at h1 h2
        subst h1; subst h2
        cases hv with | c c v hv => cases hv with | lit v h => exact .ex sz [] _ (.nil sz) ⟨none, 0, rfl⟩

theorem dw_rng0 {P : Program} {s : DS} {Q : Exit → DS → Prop} {c : Code} {α : Type} (xs : List α) (S : Nat → DS) (hmax : xs.length ≤ maxLen) (h0 : s.Sub (S 0))
    (body : ∀ k x, xs[k]? = some x → k < xs.length → x ∈ xs → xs.take (k + 1) = xs.take k ++ [x] → decide ((k : Int) < (xs.length : Int)) = true → IntKind.i64.wrap ((k : Int) + 1) = ((k + 1 : Nat) : Int) →
      DW P c (S k) (thenD (fun s' => s'.Sub (S (k + 1))) Q))
    (done : decide ((xs.length : Int) < (xs.length : Int)) = false → DW P c (S xs.length) (thenD (fun _ => False) Q)) : DW P (.loop c) s Q :=
  dw_rng xs (fun k (_ : Unit) => S k) (fun _ _ => True) () hmax h0 trivial (fun k x _ h1 h2 h3 h4 h5 h6 _ => (body k x h1 h2 h3 h4 h5 h6).mono fun e s' h => by
    cases e with
    | normal => exact ⟨(), trivial, h⟩
    | _ => exact h) (fun _ h _ => done h)

theorem dw_rngI {P : Program} {s : DS} {Q : Exit → DS → Prop} {c : Code} {α : Type} (xs : List α) (S : Nat → DS) (Inv : Nat → Prop) (hmax : xs.length ≤ maxLen) (h0 : s.Sub (S 0)) (hi0 : Inv 0)
    (body : ∀ k x, xs[k]? = some x → k < xs.length → x ∈ xs → xs.take (k + 1) = xs.take k ++ [x] → decide ((k : Int) < (xs.length : Int)) = true → IntKind.i64.wrap ((k : Int) + 1) = ((k + 1 : Nat) : Int) → Inv k →
      DW P c (S k) (thenD (fun s' => Inv (k + 1) ∧ s'.Sub (S (k + 1))) Q))
    (done : decide ((xs.length : Int) < (xs.length : Int)) = false → Inv xs.length → DW P c (S xs.length) (thenD (fun _ => False) Q)) : DW P (.loop c) s Q :=
  dw_rng xs (fun k (_ : Unit) => S k) (fun k _ => Inv k) () hmax h0 hi0 (fun k x _ h1 h2 h3 h4 h5 h6 h7 => (body k x h1 h2 h3 h4 h5 h6 h7).mono fun e s' h => by
    cases e with
    | normal => exact ⟨(), h⟩
    | _ => exact h) (fun _ h h7 => done h h7)

theorem CallC.sub {P : Program} {s s' : DS} {f : Operand} {args : List Operand} {tys : Array TypeId} {dst : Option Nat} {ty : TypeId} {pos : String} {aft : Array Edge} {F : D} {A : List D} {ds : List (Option Nat)} {l : List (Mode × Oper)} {K : DS → Prop}
    (hs : s.Sub s') (hn : s'.n = s.n) (h : CallC .step P ⟨dst, .call ⟨.value f, args.toArray, tys⟩, ty, pos, aft, none⟩ (s'.ev f) (args.map s'.ev) s' dst ds l K) :
    CallC .step P ⟨dst, .call ⟨.value f, args.toArray, tys⟩, ty, pos, aft, none⟩ F A s dst ds l K := by
  have h1 : Step P ⟨dst, .call ⟨.value f, args.toArray, tys⟩, ty, pos, aft, none⟩ s' fun s' => wk P ds l s' K := by
    have : opW .step P ⟨dst, .call ⟨.value f, args.toArray, tys⟩, ty, pos, aft, none⟩ s' fun s' => wk P ds l s' K := by
      unfold CallC at h
      simpa [opW] using h
    cases opW_ok this with
    | step h => exact h
  refine CallC.step fun hd X a w hr Q => ?_
  refine Oper.wp_mono ?_ (h1 (fun d hd' => by rw [hn]; exact hd d hd') X a w (hs X a w hr) Q)
  rintro a' w' ⟨s2, ⟨g1, g2⟩, g3⟩
  exact ⟨s2, ⟨g1.trans hn, g2⟩, g3⟩

theorem CallC.frz {P : Program} {s : DS} {f : Operand} {args : List Operand} {tys : Array TypeId} {dst : Option Nat} {ty : TypeId} {pos : String} {aft : Array Edge} {F : D} {A : List D} {ds : List (Option Nat)} {l : List (Mode × Oper)} {K : DS → Prop}
    (n : Nat) (cs : List C) (hpos : 0 < cs.length) (hn : s.bx n = some [cs.map T.c]) (h : CallC .step P ⟨dst, .call ⟨.value f, args.toArray, tys⟩, ty, pos, aft, none⟩ ((s.frz n cs.length [cs]).ev f) (args.map (s.frz n cs.length [cs]).ev) (s.frz n cs.length [cs]) dst ds l K) :
    CallC .step P ⟨dst, .call ⟨.value f, args.toArray, tys⟩, ty, pos, aft, none⟩ F A s dst ds l K :=
  CallC.sub (sub_frz1 n cs hpos hn) rfl h

/-! ### Rounds, for simp -/
theorem midM_noMid (k : Nat) : midM noMid k = False := eq_false (not_noMid k)
theorem callMemM_noMid (bx : Mem) (ns : List Nat) (k : Nat) : callMemM noMid bx ns k = if NB ≤ k ∧ k - NB ∈ ns then (bx (k - NB)).map (Rows.tr (shfM noMid ns)) else none := by
  unfold callMemM; simp only [midM_noMid, if_false]
theorem callMemAftM_noMid (bx H' : Mem) (ns : List Nat) (m : Option Nat) (k : Nat) : callMemAftM noMid bx H' ns m k =
    if m = some k then (H' 0).map (Rows.tr (usfM noMid ns m)) else if k ∈ ns then (H' (k + NB)).map (Rows.tr (usfM noMid ns m)) else (bx k).map (Rows.tr (aftM noMid ns m)) := by
  unfold callMemAftM; simp only [midM_noMid, if_false]
theorem nb_ne (a k : Nat) (h : k < 100000) : (a + NB = k) = False := eq_false (by have := NB_big; omega)
theorem nb_ne' (a k : Nat) (h : k < 100000) : (k = a + NB) = False := eq_false (by have := NB_big; omega)
theorem nb_le (a : Nat) : (NB ≤ a + NB) = True := eq_true (Nat.le_add_left _ _)
theorem nb_nle (k : Nat) (h : k < 100000) : (NB ≤ k) = False := eq_false (by have := NB_big; omega)
theorem nb_sub (a : Nat) : a + NB - NB = a := Nat.add_sub_cancel a NB
theorem nb_inj (a b : Nat) : (a + NB = b + NB) = (a = b) := by simp
theorem nb_zero (a : Nat) : (a + NB = 0) = False := eq_false (by have := NB_big; omega)
theorem roundQ_normal (ms : Nat → Bool) (ns : List Nat) (s : DS) (N : DS → Prop) (Q : Exit → DS → Prop) (t : DS) : roundQ ms ns s N Q .normal t = N (s.aftCallM ms ns none (.tup []) t.bx) := rfl
theorem roundQ_ret (ms : Nat → Bool) (ns : List Nat) (s : DS) (N : DS → Prop) (Q : Exit → DS → Prop) (t : DS) : roundQ ms ns s N Q .ret t = Q .ret (s.aftCallM ms ns none (.tup []) t.bx) := rfl
theorem roundQ_exit (ms : Nat → Bool) (ns : List Nat) (s : DS) (N : DS → Prop) (Q : Exit → DS → Prop) (t : DS) (i : Nat) : roundQ ms ns s N Q (.exit i) t = Q (.exit i) (s.aftCallM ms ns none (.tup []) t.bx) := rfl
theorem round_sl (ms : Nat → Bool) (s : DS) (ns : List Nat) (t : Nat) : (s.round0 ms ns).sl t = (s.sl t).tr (shfM ms ns) := rfl
theorem round_bx (ms : Nat → Bool) (s : DS) (ns : List Nat) (t : Nat) : (s.round0 ms ns).bx t = callMemM ms s.bx ns t := rfl
def oneMid : Nat → Bool := fun k => k == 1000
theorem midM_oneMid (k : Nat) : midM oneMid k = (k = 1000) := by
  have := NB_big
  apply propext
  simp only [midM, oneMid, beq_iff_eq]
  constructor
  · exact fun h => h.2.2
  · rintro rfl; exact ⟨Nat.le_refl _, by omega, rfl⟩
theorem callMemM_oneMid (bx : Mem) (ns : List Nat) (k : Nat) : callMemM oneMid bx ns k = if NB ≤ k ∧ k - NB ∈ ns then (bx (k - NB)).map (Rows.tr (shfM oneMid ns)) else if k = 1000 then (bx k).map (Rows.tr (shfM oneMid ns)) else none := by
  unfold callMemM; simp only [midM_oneMid]
theorem callMemAftM_oneMid (bx H' : Mem) (ns : List Nat) (m : Option Nat) (k : Nat) : callMemAftM oneMid bx H' ns m k =
    if m = some k then (H' 0).map (Rows.tr (usfM oneMid ns m)) else if k ∈ ns then (H' (k + NB)).map (Rows.tr (usfM oneMid ns m)) else if k = 1000 then (H' k).map (Rows.tr (usfM oneMid ns m)) else (bx k).map (Rows.tr (aftM oneMid ns m)) := by
  unfold callMemAftM; simp only [midM_oneMid]
attribute [go_sem] midM_oneMid callMemM_oneMid callMemAftM_oneMid
theorem puts_nil (s : DS) : s.puts [] = s := rfl
theorem puts_cons (s : DS) (u : Nat) (d : D) (l : List (Nat × D)) : s.puts ((u, d) :: l) = (s.put (some u) d).puts l := rfl
theorem round_puts (ms : Nat → Bool) (s : DS) (ns ps : List Nat) (ds : List D) : s.round ms ns ps ds = (s.round0 ms ns).puts (ps.zip (ds.map (D.tr noName))) := rfl
attribute [go_sem] midM_noMid callMemM_noMid callMemAftM_noMid nb_ne nb_ne' nb_le nb_nle nb_sub nb_inj nb_zero roundQ_normal roundQ_ret roundQ_exit round_sl round_bx round_puts puts_nil puts_cons Nat.add_eq_zero_iff List.mem_cons

theorem dw_rf {P : Program} {s : DS} {Q : Exit → DS → Prop} {g : Operand} {ps : List Tmp} {assign body : Code} {gf : FuncId} {caps : List T} {xs : List (List D)} {σ : Type} (N : Nat) (ms : Nat → Bool) (ns : List Nat) (S : Nat → σ → DS) (Inv : Nat → σ → Prop) (st0 : σ) (hi0 : Inv 0 st0) (hsn : s.n = N) (hpl : s.pl = true)
    (hd : (decide (N ≤ 1000) && (ps.all fun p => decide (p < N)) && ns.all fun k => decide (k < 1000)) = true) (hg : (s.ev g).asFn = some (gf, caps)) (hseq : SeqD P gf (caps.map fun t => .one (.c t.cl)) xs) (h0 : s.Sub (S 0 st0)) (hn : ∀ k st, (S k st).n = N) (hxs : ∀ ds ∈ xs, ds.length = ps.length)
    (hround : ∀ k ds st, xs[k]? = some ds → Inv k st → DW P assign ((S k st).round ms ns ps ds) (thenD (fun s1 => DW P body s1 (roundQ ms ns (S k st) (fun s' => ∃ st', Inv (k + 1) st' ∧ s'.Sub (S (k + 1) st')) Q)) (fun _ _ => False)))
    (hdone : ∀ st, Inv xs.length st → Q .normal (S xs.length st)) : DW P (.rangeFunc g ps.toArray assign body) s Q := by
  simp only [Bool.and_eq_true, decide_eq_true_eq, List.all_eq_true] at hd
  subst hsn
  exact dw_rangeFunc ms ns S Inv st0 hi0 hpl hg hseq h0 hn hd.1.1 (by simpa using hd.1.2) (by simpa using hxs) ⟨fun n hn h => by have := hd.2 n hn; have := h.1; omega, fun x h => by cases h⟩ (by simpa using hround) hdone

theorem dw_rfS {P : Program} {s : DS} {Q : Exit → DS → Prop} {g : Operand} {ps : List Tmp} {assign body : Code} {gf : FuncId} {caps : List T} {xs : List (List D)} {σ : Type} (N : Nat) (ms : Nat → Bool) (ns : List Nat) (S : Nat → σ → DS) (Inv : Nat → σ → Prop) (st0 : σ) (hi0 : Inv 0 st0) (hsn : s.n = N) (hpl : s.pl = true)
    (hd : (decide (N ≤ 1000) && (ps.all fun p => decide (p < N)) && ns.all fun k => decide (k < 1000)) = true) (hg : (s.ev g).asFn = some (gf, caps)) (hseq : SeqD P gf (caps.map fun t => .one (.c t.cl)) xs) (h0 : s.Sub (S 0 st0)) (hn : ∀ k st, (S k st).n = N) (hxs : ∀ ds ∈ xs, ds.length = ps.length)
    (hround : ∀ k ds st, xs[k]? = some ds → Inv k st → DW P assign ((S k st).round ms ns ps ds) (thenD (fun s1 => DW P body s1 (fun e t => ∃ t2, t.Sub t2 ∧ roundQ ms ns (S k st) (fun s' => ∃ st', Inv (k + 1) st' ∧ s'.Sub (S (k + 1) st')) Q e t2)) (fun _ _ => False)))
    (hdone : ∀ st, Inv xs.length st → Q .normal (S xs.length st)) : DW P (.rangeFunc g ps.toArray assign body) s Q := by
  refine dw_rf N ms ns S Inv st0 hi0 hsn hpl hd hg hseq h0 hn hxs (fun k ds st h1 h2 => (hround k ds st h1 h2).mono fun e t ht => ?_) hdone
  cases e with
  | normal => exact dw_post ht
  | _ => exact ht

attribute [go_sem] frz_sl frz_bx D.frz D.frzAll T.frz T.frzAll frzBx fnTT
attribute [go_sem] Option.pure_def Option.bind_eq_bind
attribute [go_sem] List.zip_cons_cons List.zip_nil_left
end
end Go.Dl

/- The logic of data: the library's sort of numbers, in memory handed over. -/
namespace Go.Dl
open Go.RowKit Go.Sort
noncomputable section

def iRows (xs : List Int) : Rows := xs.map fun x => [T.c (.lit (.int .i64 x))]

theorem iRows_get {xs : List Int} {i : Nat} {x : Int} (h : xs[i]? = some x) : (iRows xs)[i]? = some [T.c (.lit (.int .i64 x))] := by simp [iRows, h]

theorem WI.rel {X : Origin} {w : World} {E : Env} {H : Mem} (h : WI X w E H) (hm : X.mrk ≤ X.w.heap.size) (hB : NB ≤ X.B) : RelE X { n := 0, sl := fun _ => .any, bx := H, pl := false } E { tmps := #[], defers := [] } w :=
  ⟨h, fun _ => .any _, rfl, DefOK.nil _ _ hm, ⟨Nat.zero_le _, hB⟩, fun h => by cases h⟩

theorem sort_E {P : Program} {f : FuncId} (hp : Program.plainF P f = true)
    (hs : ∀ (blk off cap : Nat) (zs : List Int) (w : World), Holds (Value.int .i64) w blk off zs.toArray → blk < w.heap.size → zs.length < 4611686018427387904 →
      Calls P f #[.slice (some ⟨blk, off, none⟩) zs.length cap] w fun e w' => e = .returned (.tuple #[]) ∧ ∃ n os, w' = grow (putRow (Value.int .i64) (Sort.ahead w n) blk off (zs.mergeSort fun x y => decide (x ≤ y)).toArray) os)
    (hnone : ∀ (p : Option Addr) (cap : Nat) (w : World), Calls P f #[.slice p 0 cap] w fun e w' => e = .returned (.tuple #[]) ∧ w' = w)
    (q cap : Nat) (H : Mem) (xs : List Int) (js : Rows) (hq : H q = some (iRows xs ++ js)) (hjs : RowsSz 1 js) (hl : xs.length < 4611686018427387904) :
    ECalls P f [.one (.ba q 1 0 xs.length cap)] H (fun r H' => r = .tup [] ∧ H' = fun k => if k = q then some (iRows (xs.mergeSort fun x y => decide (x ≤ y)) ++ js) else H k) := by
  refine ⟨hp, fun w E F vs hwi hsz hv => ?_⟩
  obtain ⟨v, rfl⟩ : ∃ v, vs = #[v] := by
    have : vs.size = 1 := hsz
    refine ⟨vs[0], ?_⟩
    apply Array.ext
    · simp [this]
    · intro i h1 h2
      have h2' : i < 1 := h2
      obtain rfl : i = 0 := by omega
      rfl
  have hv0 := hv 0 _ v rfl rfl
  by_cases h0 : xs = []
  · subst h0
    have hvs : ∃ p c, v = .slice p 0 c := by
      cases hv0 with | one t v hv0 => cases hv0 with
        | ba n sz i len cap h hm => exact ⟨_, _, rfl⟩
        | bz n sz i A => exact ⟨_, _, rfl⟩
    obtain ⟨p, c, rfl⟩ := hvs
    refine (hnone p c w).mono ?_
    rintro e w' ⟨rfl, rfl⟩
    refine ⟨_, E, .tup [], _, rfl, ⟨rfl, rfl⟩, ?_, .tup [] #[] rfl (fun j d v h1 _ => by simp at h1)⟩
    have : (fun k => if k = q then some (iRows ([].mergeSort fun x y => decide (x ≤ y)) ++ js) else H k) = H := by
      funext k; split
      · rename_i hk; subst hk; simpa using hq.symm
      · rfl
    rw [this]; exact hwi
  · have hvs : ∃ c, v = .slice (some ⟨E.ρ q, 0, none⟩) xs.length c := by
      have hpos : 0 < xs.length := List.length_pos_iff.2 h0
      generalize hle : xs.length = len at hv0 hpos
      cases hv0 with | one t v hv0 => cases hv0 with
        | ba n sz i len cap h hm => exact ⟨cap, by simp⟩
        | bz n sz i A => omega
    obtain ⟨c, rfl⟩ := hvs
    have hne : iRows xs ++ js ≠ [] := by simp [iRows, h0]
    obtain ⟨g1, g2, g3⟩ := hwi.boxes q _ hq hne
    obtain ⟨arr, e, k1, k2⟩ := g2.rowsIs
    obtain ⟨sz, k3⟩ := k2.lst
    have hsz1 : sz = 1 := by
      have hm : ∃ r ∈ iRows xs, r.length = 1 := by
        cases xs with
        | nil => exact absurd rfl h0
        | cons x xs => exact ⟨_, List.mem_cons_self, rfl⟩
      obtain ⟨r, hr, hr1⟩ := hm
      rw [← k3.row r (List.mem_append_left _ hr)]; exact hr1
    subst hsz1
    have hlen : arr.size = xs.length + js.length := by
      have := k3.len
      simp [iRows] at this; exact this
    have harr : ∀ j x, xs[j]? = some x → arr[j]? = some (Value.int .i64 x) := fun j x hj => by
      have hjl : j < xs.length := (List.getElem?_eq_some_iff.1 hj).1
      have hja : j < arr.size := by omega
      have := k3.is j 0 [T.c (.lit (.int .i64 x))] _ arr[j] (by rw [List.getElem?_append_left (by simpa [iRows] using hjl)]; exact iRows_get hj) rfl (by simp [hja])
      rw [Array.getElem?_eq_getElem hja]
      have hd : VD w E (.one (.c (.lit (.int .i64 x)))) arr[j] := .one _ _ this
      rw [hd.lit]
    have hblt : E.ρ q < w.heap.size := (Array.getElem?_eq_some_iff.1 k1).1
    have hH : Holds (Value.int .i64) w (E.ρ q) 0 xs.toArray := fun j hj => by
      have hj' : j < xs.length := by simpa using hj
      refine ⟨?_, by simp [World.frozen?, k1]⟩
      have := harr j xs[j] (List.getElem?_eq_getElem hj')
      simp [World.cell?, k1, this, hj']
    refine (hs (E.ρ q) 0 c xs w hH hblt hl).mono ?_
    rintro en w' ⟨rfl, n, os, rfl⟩
    obtain ⟨ts, hts⟩ : ∃ ts, ts = xs.mergeSort fun x y => decide (x ≤ y) := ⟨_, rfl⟩
    have htl : ts.length = xs.length := by rw [hts]; exact List.length_mergeSort _
    rw [← hts]
    obtain ⟨arr', harr'⟩ : ∃ arr', arr' = putCells (Value.int .i64) 0 ts.toArray arr := ⟨_, rfl⟩
    have hsz' : arr'.size = arr.size := by rw [harr']; simp [putCells]
    have hrow : RowSet w (putRow (Value.int .i64) (Sort.ahead w n) (E.ρ q) 0 ts.toArray) (E.ρ q) e arr arr' := by
      refine ⟨k1, ?_, hsz', by simp [putRow, mapBlock, Sort.ahead], fun k hk => ?_, rfl, rfl, rfl⟩
      · simp [putRow, mapBlock, Sort.ahead, Array.getElem?_modify, k1, onCells, harr']
      · simp [putRow, mapBlock, Sort.ahead, Array.getElem?_modify, Ne.symm hk]
    have hv' : RowsIs w E arr' (iRows ts ++ js) := by
      refine ⟨1, fun r hr => ?_, by rw [hsz', hlen]; simp [iRows, htl], fun i j r t v h1 h2 h3 => ?_⟩
      · rcases List.mem_append.1 hr with hr | hr
        · obtain ⟨x, _, rfl⟩ := List.mem_map.1 hr; rfl
        · exact hjs r hr
      · by_cases hi : i < ts.length
        · rw [List.getElem?_append_left (by simpa [iRows] using hi), iRows_get (List.getElem?_eq_getElem hi)] at h1
          injection h1 with h1; subst h1
          cases j with
          | succ j => simp at h2
          | zero =>
            simp at h2; subst h2
            have hia : i < arr.size := by omega
            simp [harr', putCells, hi, hia] at h3
            subst h3
            exact .c _ _ (.lit _ rfl)
        · have h1' := h1
          rw [List.getElem?_append_right (by simp [iRows]; omega)] at h1
          have hr1 : r.length = 1 := hjs r (List.mem_of_getElem? h1)
          have hj0 : j = 0 := by have := (List.getElem?_eq_some_iff.1 h2).1; omega
          subst hj0
          refine k3.is i 0 r t v ?_ h2 ?_
          · rw [List.getElem?_append_right (by simp [iRows]; omega)]
            simpa [iRows, htl] using h1
          · simp [harr', putCells, hi] at h3 ⊢
            exact h3
    have hrel := (hwi.rel (Nat.le_refl _) (Nat.le_refl _)).setBx hq hne hrow hv'
    have hush : Hush w.heap.size (putRow (Value.int .i64) (Sort.ahead w n) (E.ρ q) 0 ts.toArray) (grow (putRow (Value.int .i64) (Sort.ahead w n) (E.ρ q) 0 ts.toArray) os) := by
      refine ⟨rfl, rfl, rfl, by simp [grow], fun b hb => ?_, fun b a' e' m hb => ?_⟩
      · exact heap_grow_old _ _ (by rw [hrow.heap]; exact hb)
      · exact heap_grow_old _ _ (Array.getElem?_eq_some_iff.1 hb).1
    have hfin := hrel.hush (a' := { tmps := #[], defers := [] }) hush rfl (DefOK.nil _ _ (Nat.le_refl _))
    exact ⟨_, E, .tup [], _, rfl, ⟨rfl, rfl⟩, hfin.wi, .tup [] #[] rfl (fun j d v h1 _ => by simp at h1)⟩
end
end Go.Dl

/- The logic of data: rows of plain cells. -/
namespace Go.Dl
open Go.RowKit
noncomputable section

def cr (xs : List (List C)) : Rows := xs.map (List.map T.c)
theorem cr_tr (r : Ren) (xs : List (List C)) : Rows.tr r (cr xs) = cr xs := Rows.tr_c r xs
theorem cr_len (xs : List (List C)) : (cr xs).length = xs.length := by simp [cr]
theorem cr_take (xs : List (List C)) (k : Nat) : (cr xs).take k = cr (xs.take k) := by simp [cr]
theorem cr_drop (xs : List (List C)) (k : Nat) : (cr xs).drop k = cr (xs.drop k) := by simp [cr]
theorem cr_append (xs ys : List (List C)) : cr (xs ++ ys) = cr xs ++ cr ys := by simp [cr]
theorem cr_cons (x : List C) (xs : List (List C)) : cr (x :: xs) = x.map T.c :: cr xs := rfl
theorem cr_nil : cr [] = [] := rfl
theorem cr_sz {sz : Nat} {xs : List (List C)} (hz : ∀ r ∈ xs, r.length = sz) : RowsSz sz (cr xs) := fun r hr => by
  obtain ⟨x, hx, rfl⟩ := List.mem_map.1 hr
  simpa using hz x hx
theorem cr_at {xs : List (List C)} {js : Rows} {i : Nat} {x : List C} (h : xs[i]? = some x) : (cr xs ++ js)[i]? = some (x.map T.c) := by
  rw [List.getElem?_append_left (by rw [cr_len]; exact (List.getElem?_eq_some_iff.1 h).1), cr, List.getElem?_map, h]; rfl
theorem cr_set {xs : List (List C)} {js : Rows} {i : Nat} {x : List C} (h : i < xs.length) : (cr xs ++ js).set i (x.map T.c) = cr (xs.set i x) ++ js := by
  rw [List.set_append_left _ _ (by rw [cr_len]; exact h), cr, cr, List.map_set]
attribute [go_sem] cr_tr

theorem srcSl {bx : Mem} {sz : Nat} {d : D} {ys : List (List C)} (hd : d = .one (.c (.sl sz ys))) : Src bx sz d (cr ys) := by
  subst hd; exact .sl ys
theorem srcBa {bx : Mem} {sz n i len cap : Nat} {d : D} {rows ys : Rows} (hd : d = .one (.ba n sz i len cap)) (hb : bx n = some rows) (hl : i + len ≤ rows.length) (hz : ∀ r ∈ rows, r.length = sz) (hys : ys = (rows.drop i).take len) : Src bx sz d ys := by
  subst hd; subst hys; exact .ba n i len cap rows hb hl hz
theorem srcOne {bx : Mem} {sz n : Nat} {d : D} {v : List T} (hd : d = .one (.ba n sz 0 1 1)) (hb : bx n = some [v]) (hl : v.length = sz) : Src bx sz d [v] :=
  srcBa hd hb (by simp) (by simpa using hl) (by simp)

def listMem (xs : List (List C)) (j sz q : Nat) (v : List C) : Mem := fun k => if k = 1000 then some (cr xs ++ anyRows j sz) else if k = q then some [v.map T.c] else none
theorem listMem_l (xs : List (List C)) (j sz q : Nat) (v : List C) : listMem xs j sz q v 1000 = some (cr xs ++ anyRows j sz) := if_pos rfl
theorem listMem_q (xs : List (List C)) (j sz a : Nat) (v : List C) : listMem xs j sz (a + NB) v (a + NB) = some [v.map T.c] := by
  have := NB_big
  unfold listMem; rw [if_neg (by omega), if_pos rfl]
end
end Go.Dl

/- The logic of data: a region whose order is drawn, where two operations may come up: both ways are gone. -/
namespace Go.Dl
open Go.RowKit
noncomputable section

inductive PT where
  | leaf
  | run (l : List Nat) (t : PT)
  | two (i : Nat) (t : PT) (j : Nat) (u : PT)

def runOk (ops : List Oper) : List Nat → Array Bool → Bool
  | [], _ => true
  | i :: l, listed => (Region.ready .any ops.toArray listed == [i]) && runOk ops l (listed.setIfInBounds i true)

def PT.len : PT → Nat
  | .leaf => 0
  | .run l t => l.length + t.len
  | .two _ t _ _ => 1 + t.len

def PT.ok (ops : List Oper) : PT → Array Bool → Bool
  | .leaf, listed => (Region.ready .any ops.toArray listed).isEmpty
  | .run l t, listed => runOk ops l listed && t.ok ops (afterA l listed)
  | .two i t j u, listed => (Region.ready .any ops.toArray listed == [i, j]) && (ops[i]?).isSome && (ops[j]?).isSome && (t.len == u.len) && t.ok ops (listed.setIfInBounds i true) && u.ok ops (listed.setIfInBounds j true)

def pickM (ops : List Oper) (m : Mode) : List Nat → List (Mode × Oper)
  | [] => []
  | i :: l => match ops[i]? with
    | some o => (m, o) :: pickM ops m l
    | none => []

def pickH (ops : List Oper) (hd : List Nat) : List Nat → List (Mode × Oper)
  | [] => []
  | i :: l => match ops[i]? with
    | some o => (if i ∈ hd then .hand else .step, o) :: pickH ops hd l
    | none => []

def PT.wk (P : Program) (ops : List Oper) (hd : List Nat) (ds : List (Option Nat)) : PT → DS → (DS → Prop) → Prop
  | .leaf, s, K => K s
  | .run l t, s, K => Go.Dl.wk P ds (pickH ops hd l) s fun s' => t.wk P ops hd ds s' K
  | .two i t j u, s, K => (Go.Dl.wk P ds (pickH ops hd [i]) s fun s' => t.wk P ops hd ds s' K) ∧ Go.Dl.wk P ds (pickH ops hd [j]) s fun s' => u.wk P ops hd ds s' K

section
variable {P : Program}

theorem any_each {ops : List Oper} {N : Nat} (hb : dstB ops N = true) {K : DS → Prop} {fuel : Nat} {listed : Array Bool} {s : DS} {l : List Nat} (hr : Region.ready .any ops.toArray listed = l) (hne : l ≠ [])
    (h : ∀ i ∈ l, ∃ o, ops[i]? = some o ∧ guardS P ops o s (AnyOk P ops N K fuel (listed.setIfInBounds i true))) : AnyOk P ops N K (fuel + 1) listed s := by
  intro hn X a w hrel
  refine wpAny_all hr hne fun j hj => ?_
  obtain ⟨o, ho, h⟩ := h j hj
  have hd := dst_of hb ho
  unfold wpOp
  have ho' : ops.toArray[j]? = some o := by simpa using ho
  simp only [ho']
  unfold guardS at h
  split at h
  · rename_i t ht
    rw [wantD_ok ht hrel]
    split at h
    · rename_i h3
      rw [if_pos h3]
      refine .inl (Oper.wp_mono ?_ (h (fun d hd' => by rw [hn]; exact hd d hd') X a w hrel _))
      rintro a' w' ⟨s', ⟨hn', hs'⟩, hr'⟩
      exact hs' (hn'.trans hn) X a' w' hr'
    · rename_i h3
      rw [if_neg h3]
      exact h (by rw [put_n]; exact hn) X _ w (putAny hrel (fun d hd' => by rw [hn]; exact hd d hd'))
  · exact h.elim

theorem wk_guardS {ops : List Oper} {o : Oper} {l : List (Mode × Oper)} {s : DS} {K : DS → Prop} {p : Prop} [Decidable p] (h : wk P (ops.map (·.dst)) ((if p then .hand else .step, o) :: l) s K) : guardS P ops o s fun s' => wk P (ops.map (·.dst)) l s' K := by
  have h := wk_cons h
  unfold GIs at h
  simp only [guardS]
  split at h
  · rename_i hw
    simp only [hw, if_true]
    split at h
    · cases h with
      | hand h => exact h
    · cases h with
      | step h => exact h
  · rename_i hw
    simp only [hw, Bool.false_eq_true, if_false]
    exact h
  · exact h.elim

theorem guardS_mono {ops : List Oper} {o : Oper} {s : DS} {K K' : DS → Prop} (hk : ∀ s, K s → K' s) (h : guardS P ops o s K) : guardS P ops o s K' := by
  revert h
  simp only [guardS]
  split
  · split
    · exact fun h => h.mono fun s' _ => hk s'
    · exact hk _
  · exact id

theorem run_ok {ops : List Oper} {hd : List Nat} {N : Nat} (hb : dstB ops N = true) {K K1 : DS → Prop} {fuel : Nat} : ∀ (l : List Nat) (listed : Array Bool) (s : DS), runOk ops l listed = true →
    wk P (ops.map (·.dst)) (pickH ops hd l) s K1 → (∀ s, K1 s → AnyOk P ops N K fuel (afterA l listed) s) → (∀ i ∈ l, (ops[i]?).isSome = true) → AnyOk P ops N K (l.length + fuel) listed s
  | [], listed, s, _, h, hk, _ => by
    have := hk s (by simpa [pickH, wk] using h)
    simpa [afterA] using this
  | i :: l, listed, s, hr, h, hk, hs => by
    simp only [runOk, Bool.and_eq_true, beq_iff_eq] at hr
    have hi := hs i (by simp)
    cases ho : ops[i]? with
    | none => rw [ho] at hi; cases hi
    | some o =>
      simp only [pickH, ho] at h
      have hfu : (i :: l).length + fuel = (l.length + fuel) + 1 := by simp; omega
      rw [hfu]
      exact any_only hb hr.1 ho (guardS_mono (fun s' h' => run_ok hb l _ s' hr.2 h' hk fun j hj => hs j (by simp [hj])) (wk_guardS h))

theorem ready_some {ops : List Oper} {listed : Array Bool} {i : Nat} (h : i ∈ Region.ready .any ops.toArray listed) : (ops[i]?).isSome = true := by
  have h1 : i < ops.toArray.size := by
    unfold Region.ready at h
    have := (List.mem_filter.1 h).1
    simpa using this
  simp at h1
  simp [h1]

theorem run_some {ops : List Oper} : ∀ (l : List Nat) (listed : Array Bool), runOk ops l listed = true → ∀ i ∈ l, (ops[i]?).isSome = true
  | [], _, _ => by simp
  | i :: l, listed, hr => by
    simp only [runOk, Bool.and_eq_true, beq_iff_eq] at hr
    intro j hj
    rcases List.mem_cons.1 hj with rfl | hj
    · exact ready_some (listed := listed) (by rw [hr.1]; simp)
    · exact run_some l _ hr.2 j hj

theorem pickM_nil (ops : List Oper) (m : Mode) : pickM ops m [] = [] := rfl
theorem pickM_cons (ops : List Oper) (m : Mode) (i : Nat) (l : List Nat) : pickM ops m (i :: l) = match ops[i]? with | some o => (m, o) :: pickM ops m l | none => [] := rfl
theorem pickH_nil (ops : List Oper) (hd : List Nat) : pickH ops hd [] = [] := rfl
theorem pickH_cons (ops : List Oper) (hd : List Nat) (i : Nat) (l : List Nat) : pickH ops hd (i :: l) = match ops[i]? with | some o => (if i ∈ hd then .hand else .step, o) :: pickH ops hd l | none => [] := rfl
theorem ptwk_leaf (ops : List Oper) (hd : List Nat) (ds : List (Option Nat)) (s : DS) (K : DS → Prop) : PT.leaf.wk P ops hd ds s K = K s := rfl
theorem ptwk_run (ops : List Oper) (hd : List Nat) (ds : List (Option Nat)) (l : List Nat) (t : PT) (s : DS) (K : DS → Prop) : (PT.run l t).wk P ops hd ds s K = Go.Dl.wk P ds (pickH ops hd l) s fun s' => t.wk P ops hd ds s' K := rfl
theorem ptwk_two (ops : List Oper) (hd : List Nat) (ds : List (Option Nat)) (i j : Nat) (t u : PT) (s : DS) (K : DS → Prop) : (PT.two i t j u).wk P ops hd ds s K = ((Go.Dl.wk P ds (pickH ops hd [i]) s fun s' => t.wk P ops hd ds s' K) ∧ Go.Dl.wk P ds (pickH ops hd [j]) s fun s' => u.wk P ops hd ds s' K) := rfl
attribute [go_sem] pickM_nil pickM_cons pickH_nil pickH_cons ptwk_leaf ptwk_run ptwk_two
end
end
end Go.Dl

/- The logic of data: behind a loop. -/
namespace Go.Dl
open Go.RowKit
noncomputable section
theorem dw_after {P : Program} {α : Type} {id : Nat} {c rest : Code} {s : DS} {Q Q2 : Exit → DS → Prop} (S : α → DS) (F : α → Prop) (h1 : DW P c s (fun e s' => e = .exit id ∧ ∃ y, F y ∧ s'.Sub (S y))) (h2 : ∀ y, F y → DW P rest (S y) Q) :
    DW P c s (inBlockD id (thenD (fun s' => DW P rest s' Q) Q2)) :=
  h1.mono fun e s' ⟨he, y, hF, hs⟩ => by
    subst he
    simp only [inBlockD, if_true, thenD]
    exact dw_weaken hs (h2 y hF)
theorem dw_afterN {P : Program} {α : Type} {c rest : Code} {s : DS} {Q Q2 : Exit → DS → Prop} (S : α → DS) (F : α → Prop) (h1 : DW P c s (fun e s' => e = .normal ∧ ∃ y, F y ∧ s'.Sub (S y))) (h2 : ∀ y, F y → DW P rest (S y) Q) :
    DW P c s (thenD (fun s' => DW P rest s' Q) Q2) :=
  h1.mono fun e s' ⟨he, y, hF, hs⟩ => by
    subst he
    simp only [thenD]
    exact dw_weaken hs (h2 y hF)
theorem nb_1000 : (1000 < NB) = True := eq_true (by have := NB_big; omega)
attribute [go_sem] nb_1000

theorem listMem_call {xs : List (List C)} {j sz a : Nat} {v : List C} {bx : Mem} (ha : a < 1000) (h1 : bx 1000 = some (cr xs ++ anyRows j sz)) (h2 : bx a = some [v.map T.c]) : ∀ k r, listMem xs j sz (a + NB) v k = some r → callMem bx [a] k = some r := fun k r h => by
  have hNB := NB_big
  unfold listMem at h
  unfold callMem
  split at h
  · rename_i hk
    subst hk
    rw [if_neg (by intro h; omega), if_pos ⟨Nat.le_refl _, by omega⟩, h1, ← h]
    simp only [Option.map_some, Rows.tr_append, cr_tr, anyRows_tr]
  · split at h
    · rename_i hk
      subst hk
      rw [if_pos ⟨Nat.le_add_left _ _, by simp⟩, Nat.add_sub_cancel, h2, ← h]
      simp only [Option.map_some, Rows.tr_cons, Rows.tr_nil, tr_c]
    · cases h
end
end Go.Dl

/- The logic of data: a made slice of zeros. -/
namespace Go.Dl
open Go.RowKit
noncomputable section
section
variable {P : Program}

end
theorem nb_lt (a : Nat) : (a + NB < NB) = False := eq_false (by omega)
attribute [go_sem] nb_lt
end
end Go.Dl

/- The reading of arguments: what the form reads as data is read by the logic of data, too. -/
namespace Go.Dl
open Go.RowKit Go.ChangeShapes Go.WideShapes Go.ChangeAt

inductive Sh where
  | int (k : IntKind)
  | bool
  | str
  | sl (sz : Nat) (e : Sh)
  | nil
  | cons (f r : Sh)

def Val : Sh → Type
  | .int _ => Int
  | .bool => Bool
  | .str => ByteArray
  | .sl _ e => List (Val e)
  | .nil => Unit
  | .cons f r => Val f × Val r

def Sh.size : Sh → Nat
  | .nil => 0
  | .cons f r => f.size + r.size
  | _ => 1

def Sh.enc : (s : Sh) → Val s → List C
  | .int k, n => [.lit (.int k n)]
  | .bool, b => [.lit (.bool b)]
  | .str, s => [.lit (.string s)]
  | .sl sz e, l => [.sl sz (List.map (Sh.enc e) l)]
  | .nil, _ => []
  | .cons f r, x => Sh.enc f x.1 ++ Sh.enc r x.2

def Sh.ok : (s : Sh) → Val s → Prop
  | .int k, n => (Lit.int k n).wf = true
  | .bool, _ => True
  | .str, s => s.size ≤ maxLen
  | .sl _ e, l => (show List (Val e) from l).length ≤ maxLen ∧ ∀ x ∈ (show List (Val e) from l), Sh.ok e x
  | .nil, _ => True
  | .cons f r, x => Sh.ok f x.1 ∧ Sh.ok r x.2

theorem Sh.enc_len : (s : Sh) → (x : Val s) → (s.enc x).length = s.size
  | .int k, n => rfl
  | .bool, b => rfl
  | .str, s => rfl
  | .sl sz e, l => rfl
  | .nil, _ => rfl
  | .cons f r, x => by simp only [Sh.enc, List.length_append, Sh.enc_len f, Sh.enc_len r, Sh.size]

def Program.has (P : Program) : Sh → TypeId ⊕ (List Field × Nat) → Bool
  | .int k, .inl t => match P.underlying t with | some (.int k') => decide (k' = k) | _ => false
  | .bool, .inl t => match P.underlying t with | some .bool => true | _ => false
  | .str, .inl t => match P.underlying t with | some .string => true | _ => false
  | .sl sz e, .inl t => match P.underlying t with | some (.slice el) => P.cellsOf el == sz && decide (0 < sz) && e.size == sz && Program.has P e (.inl el) | _ => false
  | .cons f r, .inl t => match P.underlying t with
    | some (.struct fs) => match fs.toList with
      | fd :: rest => P.cellsOf t == f.size + r.size && fd.offset == 0 && P.cellsOf fd.type == f.size && Program.has P f (.inl fd.type) && Program.has P r (.inr (rest, f.size))
      | [] => false
    | _ => false
  | .nil, .inr (fs, _) => fs.isEmpty
  | .cons f r, .inr (fs, o) => match fs with
    | fd :: rest => fd.offset == o && P.cellsOf fd.type == f.size && Program.has P f (.inl fd.type) && Program.has P r (.inr (rest, o + f.size))
    | [] => false
  | _, _ => false

def Kall (w : World) : KSet := fun b o => (w.cell? ⟨b, o, none⟩).isSome = true

def CellsC (w : World) (cs : List C) (vs : List Value) : Prop := vs.length = cs.length ∧ ∀ (j : Nat) c v, cs[j]? = some c → vs[j]? = some v → VC w (Kall w) c v

theorem CellsC.app {w : World} {a b : List C} {u v : List Value} (h : CellsC w a u) (k : CellsC w b v) : CellsC w (a ++ b) (u ++ v) := by
  refine ⟨by simp [h.1, k.1], fun j c x h1 h2 => ?_⟩
  rw [List.getElem?_append] at h1 h2
  rw [h.1] at h2
  split at h1
  · rename_i hj; rw [if_pos hj] at h2; exact h.2 j c x h1 h2
  · rename_i hj; rw [if_neg hj] at h2; exact k.2 _ c x h1 h2

theorem CellsC.one {w : World} {c : C} {v : Value} (h : VC w (Kall w) c v) : CellsC w [c] [v] :=
  ⟨rfl, fun j c' v' h1 h2 => by
    cases j with
    | zero => simp at h1 h2; subst h1; subst h2; exact h
    | succ j => simp at h1⟩

section
variable {P : Program} {H : Type} {enc : TypeId × Value → H} {w : World} {sp : Nat → Bool} {held : Bool}

theorem cells?_get {base : Nat} {a : Addr} {n : Nat} {vs : List Value} (h : w.cells? base a n = some vs) : vs.length = n ∧ ∀ j, j < n → w.cell? (a.add j) = vs[j]? := by
  unfold World.cells? at h
  split at h
  · have hl : vs.length = n := by
      have := mapM_some_length h
      simpa using this
    refine ⟨hl, fun j hj => ?_⟩
    have := mapM_some_get h j j (by simp [hj])
    simpa using this
  · cases h

end
end Go.Dl

/- The frame of a law: from its contract to the statement's form. -/
namespace Go.Dl
open Go.RowKit Go.ChangeShapes Go.WideShapes Go.ChangeAt

theorem CellsC.one_inv {w : World} {c : C} {v : Value} (h : CellsC w [c] [v]) : VC w (Kall w) c v := h.2 0 c v rfl rfl

def ArgD (s : Sh) (a : Val s) : D :=
  match s, s.enc a with
  | .cons _ _, cs => .agg (cs.map T.c)
  | .nil, cs => .agg (cs.map T.c)
  | _, [c] => .one (.c c)
  | _, _ => .any

def TabsAt (w : World) : Prop := ∀ g vs, gtab g = some vs → ∀ (o : Nat) v, vs[o]? = some v → v.oneCell' = true ∧ w.cell? ⟨g, o, none⟩ = some v

theorem law_calls {P : Program} {f : FuncId} {ds : List D} (hc : DCalls P f ds (.one (.c (.lit (.bool true))))) {w : World} {vs : Array Value} (hl : vs.size = ds.length) (hv : ∀ (j : Nat) d v, ds[j]? = some d → vs[j]? = some v → VD w (E0 (Kall w)) d v)
    (ht : TabsAt w) : Calls P f vs w fun e w' => e = .returned (.bool true) ∧ Below w.heap.size w w' := by
  refine (hc.2 w (Kall w) vs ⟨fun b o h => h, fun g vs hg o v hv => ?_⟩ hl hv).mono ?_
  · obtain ⟨h1, h2⟩ := ht g vs hg o v hv
    exact ⟨h1, by simp [Kall, h2], h2⟩
  rintro e w' ⟨v, E', rfl, hr, hvd⟩
  exact ⟨by rw [hvd.lit], hr.below⟩
end Go.Dl

/- The logic of data: a range over a string in the text of an iterator: the iteration's own block beside the caller's world. -/
namespace Go.Dl
open Go.RowKit
noncomputable section

def botD : D := .one (.c (.lit (.agg #[])))
theorem botD_no {w : World} {E : Env} {v : Value} : ¬ VD w E botD v := by
  intro h
  unfold botD at h
  cases h with | one t v h => cases h with | c c v h => cases h with | lit v h => simp [Value.oneCell'] at h

def dbl : List (List D) → List (List D)
  | [] => []
  | x :: l => [botD] :: x :: dbl l
theorem dbl_odd : ∀ (xs : List (List D)) (k : Nat), (dbl xs)[2 * k + 1]? = xs[k]?
  | [], k => by simp [dbl]
  | x :: l, 0 => by simp [dbl]
  | x :: l, k + 1 => by
    rw [show 2 * (k + 1) + 1 = (2 * k + 1) + 1 + 1 by omega]
    simp only [dbl, List.getElem?_cons_succ]
    exact dbl_odd l k
theorem dbl_even : ∀ (xs : List (List D)) (k : Nat) (ds : List D), (dbl xs)[2 * k]? = some ds → ds = [botD]
  | [], k, ds, h => by simp [dbl] at h
  | x :: l, 0, ds, h => by simp [dbl] at h; exact h.symm
  | x :: l, k + 1, ds, h => by
    rw [show 2 * (k + 1) = (2 * k) + 1 + 1 by omega] at h
    simp only [dbl, List.getElem?_cons_succ] at h
    exact dbl_even l k ds h

def strJ (J : Option Nat → World → KSet → Prop) (b : Nat) (s : ByteArray) (pos : Nat → Nat) : Option Nat → World → KSet → Prop
  | none, w, K => J none w K
  | some m, w, K => J (some (m / 2)) w K ∧ w.heap[b]? = some (.stringIter s (pos ((m + 1) / 2)))

def half : Option Nat → Option Nat := Option.map (· / 2)
theorem half_even (k : Nat) : half (some (2 * k)) = some k := by simp [half]
theorem strJ_half {J : Option Nat → World → KSet → Prop} {b : Nat} {s : ByteArray} {pos : Nat → Nat} {g : Option Nat} {w : World} {K : KSet} (h : strJ J b s pos g w K) : J (half g) w K := by
  cases g with
  | none => exact h
  | some m => exact h.1

section
variable {P : Program} {m n : Nat} {J : Option Nat → World → KSet → Prop} {s : DS} {g ro : Option Nat} {Q : Exit → DS → Option Nat → Prop}

theorem stab_str (hJ : Stab n J) {n' b : Nat} {str : ByteArray} {pos : Nat → Nat} (hn : n ≤ n') (hb : b < n') : Stab n' (strJ J b str pos) := fun g A B L L' h hu hL => by
  cases g with
  | none => exact hJ _ A B L L' h (hu.mono hn) hL
  | some m => exact ⟨hJ _ A B L L' h.1 (hu.mono hn) hL, (hu.old b hb).trans h.2⟩

theorem yields_str {l : Nat} {xs : List (List D)} (hY : Yields P m n J l xs) {n' b : Nat} {str : ByteArray} {pos : Nat → Nat} (hn : n ≤ n') (hb : m ≤ b) : Yields P m n' (strJ J b str pos) l (dbl xs) := by
  refine ⟨hY.1, fun k ds W L va h1 h2 h3 h4 h5 => ?_⟩
  rcases Nat.mod_two_eq_zero_or_one k with hk | hk
  · obtain ⟨j, rfl⟩ : ∃ j, k = 2 * j := ⟨k / 2, by omega⟩
    have := dbl_even xs j ds h1
    subst this
    have hv := h5 0 botD (va[0]'(by simp at h4; omega)) rfl (Array.getElem?_eq_getElem _)
    exact absurd hv botD_no
  · obtain ⟨j, rfl⟩ : ∃ j, k = 2 * j + 1 := ⟨k / 2, by omega⟩
    rw [dbl_odd] at h1
    have e1 : (2 * j + 1) / 2 = j := by omega
    have e2 : (2 * j + 1 + 1) / 2 = j + 1 := by omega
    have e3 : (2 * j + 1 + 1 + 1) / 2 = j + 1 := by omega
    obtain ⟨q1, q2⟩ := h2
    rw [e1] at q1
    rw [e2] at q2
    obtain ⟨fn, tmps, assign, body, hy, hr⟩ := hY.2 j ds W L va h1 q1 (Nat.le_trans hn h3) h4 h5
    refine ⟨fn, tmps, assign, body, hy, hr.mono ?_⟩
    rintro e W' ⟨b', rfl, r1, r2⟩
    refine ⟨b', rfl, ?_, r2.size, r2.cells, fun c ob hc => r2.others c ob hc⟩
    cases b' with
    | false => exact r1
    | true =>
      simp only [if_true] at r1 ⊢
      refine ⟨by rw [e2]; exact r1, ?_⟩
      rw [e3]
      exact r2.others b _ hb q2 (by simp)

def itD (b : Nat) : D := .one (.c (.lit (.pointer (some ⟨b, 0, none⟩))))

theorem iw_seq_range (hJ : Stab n J) {l : Nat} {xs : List (List D)} (hY : Yields P m n J l xs) {id : Nat} {pre : List Oper} {o : Oper} {t : TypeId} {x : Operand} {d : Nat} {y : Code} {str : ByteArray} (pos : Nat → Nat) (h0 : pos 0 = 0)
    (hop : o.op = .range t x) (hg : o.guard = none) (hdst : o.dst = some d) (hu : P.underlying t = some .string) (hb : dstB (pre ++ [o]) s.n = true)
    (h : wk P ((pre ++ [o]).map (·.dst)) (tagS pre) s.bare fun s1 => s1.flat.ev x = .one (.c (.lit (.string str))) ∧
      ∀ b n' J', Stab n' J' → Yields P m n' J' l (dbl xs) → J' = strJ J b str pos → n ≤ b → b < n' → IW P m n' J' ro y (s1.flat.put (some d) (itD b)) (some 0) (fun e s g => Q e s (half g))) :
    IW P m n J ro (.seq (.region id (pre ++ [o]).toArray false) y) s (some 0) Q := by
  intro K a w hf hj
  refine wpIn_seq ?_
  have hol : o ∈ pre ++ [o] := by simp
  refine wpIn_region_lit ?_
  refine walk_pre (X := ⟨w, K, fun _ _ => False, (E0 K).ρ, NB, ro, m⟩) (N := s.n) (ops := pre ++ [o]) (fun s1 a1 w1 hn1 hs1 hr1 => ?_) pre s.bare a w (dstB_sub hb fun x hx => List.mem_append_left _ hx) rfl ⟨_, hf.rel ro⟩ (wk_walkS _ _ h)
  obtain ⟨K1, q1, q2, q3⟩ := flat_after hf hJ hj hr1
  obtain ⟨hx, hy⟩ := hs1
  obtain ⟨h00, h11, _⟩ := dstB_cons (dstB_sub hb (l' := [o]) fun x hx => List.mem_append_right _ hx)
  have hd : d < s1.flat.n := by rw [show s1.flat.n = s.n from hn1]; exact h11 d hdst
  refine wpListIn_step fun K' hK' => ?_
  have hwant : wantD (pre ++ [o]) s1.flat.bare o = some true := by simp [wantD, hg]
  rw [wantD_ok hwant ⟨_, q1.rel ro⟩]
  simp only [if_true]
  have hev := q1.ev x
  rw [hx] at hev
  have hxv : a1.eval x = .string str := hev.lit
  have hrun : (execOp a1.eval o).run P w1 = .ok (.value (.pointer (some ⟨w1.heap.size, 0, none⟩))) (w1.iter str 0) := by
    unfold execOp
    simp [hop, hxv, Sem.run_bind, run_range_string w1 t str hu]
  refine wpIn_of_wp h00 (wp_run hrun ?_)
  refine hK' _ _ (wpListIn_nil ?_)
  have hush : Hush w1.heap.size w1 (w1.iter str 0) := Hush.alloc _ (Nat.le_refl _)
  have hush' : Hush n w1 (w1.iter str 0) := hush.mono q1.mrk
  have hext := hush.ext q1.kok (fun _ _ h => h)
  have hsz : (w1.iter str 0).heap.size = w1.heap.size + 1 := by simp [World.iter]
  have hf2 : Flat m n (s1.flat.put (some d) (itD w1.heap.size)) K1 (a1.put o.dst (.pointer (some ⟨w1.heap.size, 0, none⟩))) (w1.iter str 0) := by
    rw [hdst]
    refine q1.put (fun b o hb => (hext b o hb).2) (by omega) (fun D hD hh => ?_) (fun e he => by injection he with he; subst he; exact hd) (.one _ _ (.c _ _ (.lit _ rfl)))
    have hlt : D < w1.heap.size := (Array.getElem?_eq_some_iff.1 hh).1
    exact (hush.old D hlt).trans hh
  have hnb : n ≤ w1.heap.size := q1.mrk
  have hmn := q1.mn
  have hj2 : strJ J w1.heap.size str pos (some 0) (w1.iter str 0) K1 := ⟨hJ _ w1 _ K1 K1 q2 hush' fun b o h => .inl h, by rw [show pos ((0 + 1) / 2) = 0 from h0]; exact World.iter_heap w1 str 0⟩
  have hf3 : Flat m (w1.heap.size + 1) (s1.flat.put (some d) (itD w1.heap.size)) K1 (a1.put o.dst (.pointer (some ⟨w1.heap.size, 0, none⟩))) (w1.iter str 0) := by
    obtain ⟨r1, r2, r3, r4, r5, r6, r7⟩ := hf2
    exact ⟨r1, r2, r3, r4, by omega, by omega, r7⟩
  have := hy w1.heap.size (w1.heap.size + 1) _ (stab_str hJ (by omega) (Nat.lt_succ_self _)) (yields_str hY (by omega) (by omega)) rfl (by omega) (by omega) K1 _ _ hf3 hj2
  refine wpIn_mono this ?_
  rintro e a' w' ⟨s', g', K', z1, z2, z3, z4⟩
  obtain ⟨r1, r2, r3, r4, r5, r6, r7⟩ := z2
  exact ⟨s', half g', K', z1, ⟨r1, r2, r3, r4, by omega, q1.mn, r7⟩, strJ_half z3, q3.trans (hext.trans z4)⟩
def nextD (b : Nat) (str : ByteArray) (pos : Nat → Nat) (o : Oper) (s : DS) (g : Option Nat) (K : DS → Option Nat → Prop) : Prop :=
  ∃ it k, o.op = .next it true ∧ o.guard = none ∧ s.ev it = itD b ∧ g = some (2 * k) ∧
    (pos k < str.size → pos (k + 1) = pos k + (Utf8.decode str (pos k)).2 ∧
      K (s.put o.dst (.tup [.one (.c (.lit (.bool true))), .one (.c (.lit (.int .i64 (pos k)))), .one (.c (.lit (.int .i32 (Utf8.decode str (pos k)).1)))])) (some (2 * k + 1))) ∧
    (¬ pos k < str.size → K (s.put o.dst (.tup [.one (.c (.lit (.bool false)))])) (some (2 * k)))

theorem run_next_at (w : World) (b : Nat) (str : ByteArray) (q : Nat) (ty : TypeId) (hh : w.heap[b]? = some (.stringIter str q)) (h : q < str.size) :
    (Instr.next (.pointer (some ⟨b, 0, none⟩)) true ty).run P w = .ok (.tuple #[.bool true, .int .i64 q, .int .i32 (Utf8.decode str q).1]) (w.putObj b (.stringIter str (q + (Utf8.decode str q).2))) := by
  simp [Instr.next, getObj, setObj, Sem.run_bind, Sem.run, hh, Result.andThen, h, goInt, World.putObj]
theorem run_next_over (w : World) (b : Nat) (str : ByteArray) (q : Nat) (ty : TypeId) (hh : w.heap[b]? = some (.stringIter str q)) (h : ¬ q < str.size) :
    (Instr.next (.pointer (some ⟨b, 0, none⟩)) true ty).run P w = .ok (.tuple #[.bool false]) w := by
  simp [Instr.next, getObj, Sem.run_bind, Sem.run, hh, Result.andThen, h]

theorem next_ok {n0 b : Nat} {str : ByteArray} {pos : Nat → Nat} (hJ0 : Stab n0 J) (hnb : n0 ≤ b) {ops r : List Oper} {o : Oper} {N : Nat} {Kp : DS → Option Nat → Prop} {Q' : Exit → Act → World → Prop} {K0 : KSet} {w0 : World}
    (hK : ∀ s g K a w, s.n = N → Kp s g → Flat m n s K a w → strJ J b str pos g w K → Ext w0 K0 w K → wpListIn (rd ro) 0 P ops.toArray Q' r a w) {K : KSet} {a : Act} {w : World} (hb : dstB [o] N = true) (hn : s.n = N) (hf : Flat m n s K a w) (hj : strJ J b str pos g w K) (he : Ext w0 K0 w K)
    (h : nextD b str pos o s g Kp) : wpListIn (rd ro) 0 P ops.toArray Q' (o :: r) a w := by
  obtain ⟨h0, h1, _⟩ := dstB_cons hb
  have hd : ∀ d, o.dst = some d → d < s.n := fun d hd => by rw [hn]; exact h1 d hd
  refine wpListIn_step fun K' hK' => ?_
  obtain ⟨it, k, hop, hg, hev, rfl, hin, hout⟩ := h
  have hwant : wantD ops s.bare o = some true := by simp [wantD, hg]
  rw [wantD_ok hwant ⟨_, hf.rel ro⟩]
  simp only [if_true]
  have hv := hf.ev it
  rw [hev] at hv
  have hit : a.eval it = .pointer (some ⟨b, 0, none⟩) := hv.lit
  obtain ⟨j1, j2⟩ := hj
  have e1 : 2 * k / 2 = k := by omega
  have e2 : (2 * k + 1) / 2 = k := by omega
  have e3 : (2 * k + 1 + 1) / 2 = k + 1 := by omega
  rw [e1] at j1
  rw [e2] at j2
  by_cases hlt : pos k < str.size
  · obtain ⟨hp, hKp⟩ := hin hlt
    have hrun : (execOp a.eval o).run P w = .ok (.value (.tuple #[.bool true, .int .i64 (pos k), .int .i32 (Utf8.decode str (pos k)).1])) (w.putObj b (.stringIter str (pos k + (Utf8.decode str (pos k)).2))) := by
      unfold execOp
      simp [hop, hit, Sem.run_bind, run_next_at w b str (pos k) _ j2 hlt]
    have hu : Hush n0 w (w.putObj b (.stringIter str (pos k + (Utf8.decode str (pos k)).2))) := Hush.putObj _ hnb j2 (by simp)
    have hext := hu.ext hf.kok (fun _ _ h => h)
    refine wpIn_of_wp h0 (wp_run hrun ?_)
    refine hK' _ _ (hK _ _ K _ _ (by rw [put_n]; exact hn) hKp (hf.put (fun c o hc => (hext c o hc).2) hu.size (fun D _ hh => ?_) hd ?_) ⟨by rw [e2]; exact hJ0 _ w _ K K j1 hu fun b o h => .inl h, ?_⟩ (he.trans hext))
    · have : D ≠ b := fun e => by rw [e, j2] at hh; cases hh
      exact (World.putObj_heap_other this).trans hh
    · refine .tup _ _ rfl fun j d v h1 h2 => ?_
      match j with
      | 0 => simp at h1 h2; subst h1; subst h2; exact .one _ _ (.c _ _ (.lit _ rfl))
      | 1 => simp at h1 h2; subst h1; subst h2; exact .one _ _ (.c _ _ (.lit _ rfl))
      | 2 => simp at h1 h2; subst h1; subst h2; exact .one _ _ (.c _ _ (.lit _ rfl))
      | j + 3 => simp at h1
    · rw [e3, hp]
      exact World.putObj_heap_same (Array.getElem?_eq_some_iff.1 j2).1
  · have hrun : (execOp a.eval o).run P w = .ok (.value (.tuple #[.bool false])) w := by
      unfold execOp
      simp [hop, hit, Sem.run_bind, run_next_over w b str (pos k) _ j2 hlt]
    refine wpIn_of_wp h0 (wp_run hrun ?_)
    refine hK' _ _ (hK _ _ K _ _ (by rw [put_n]; exact hn) (hout hlt) (hf.put (fun _ _ _ => rfl) (Nat.le_refl _) (fun _ _ h => h) hd ?_) ⟨by rw [e1]; exact j1, by rw [e2]; exact j2⟩ he)
    refine .tup _ _ rfl fun j d v h1 h2 => ?_
    match j with
    | 0 => simp at h1 h2; subst h1; subst h2; exact .one _ _ (.c _ _ (.lit _ rfl))
    | j + 1 => simp at h1

theorem iw_region_next {n0 b : Nat} {str : ByteArray} {pos : Nat → Nat} (hJ0 : Stab n0 J) (hnb : n0 ≤ b) (hJ : Stab n (strJ J b str pos)) {id : Nat} {ops : List Oper} (i : Nat) {o : Oper} (ho : ops[i]? = some o) (hb : dstB ops s.n = true)
    (h : wk P (ops.map (·.dst)) (tagS (ops.take i)) s.bare fun s1 => nextD b str pos o s1.flat g fun s2 g2 => wk P (ops.map (·.dst)) (tagS (ops.drop (i + 1))) s2.bare fun s3 => Q .normal s3.flat g2) : IW P m n (strJ J b str pos) ro (.region id ops.toArray false) s g Q := by
  intro K a w hf hj
  have hi : i < ops.length := (List.getElem?_eq_some_iff.1 ho).1
  have hsp : ops = ops.take i ++ (o :: ops.drop (i + 1)) := by
    have : o = ops[i] := by rw [List.getElem?_eq_getElem hi] at ho; injection ho with ho; exact ho.symm
    rw [this, ← List.drop_eq_getElem_cons hi, List.take_append_drop]
  have hol : o ∈ ops := List.mem_of_getElem? ho
  refine wpIn_region_lit ?_
  conv => arg 6; rw [hsp]
  refine walk_pre (X := ⟨w, K, fun _ _ => False, (E0 K).ρ, NB, ro, m⟩) (N := s.n) (fun s1 a1 w1 hn1 hs1 hr1 => ?_) (ops.take i) s.bare a w (dstB_sub hb fun x hx => List.mem_of_mem_take hx) rfl ⟨_, hf.rel ro⟩ (wk_walkS _ _ h)
  obtain ⟨K1, q1, q2, q3⟩ := flat_after hf hJ hj hr1
  refine next_ok (s := s1.flat) (N := s.n) (w0 := w) (K0 := K) hJ0 hnb (fun s2 g2 K2 a2 w2 hn2 hs2 hf2 hj2 he2 => ?_) (dstB_sub hb fun x hx => by simp at hx; exact hx ▸ hol) hn1 q1 q2 q3 hs1
  have := walk_pre (X := ⟨w2, K2, fun _ _ => False, (E0 K2).ρ, NB, ro, m⟩) (N := s.n) (r := []) (Q' := fun e a' w' => ∃ s' g' K', Q e s' g' ∧ Flat m n s' K' a' w' ∧ strJ J b str pos g' w' K' ∧ Ext w K w' K') (fun s3 a3 w3 _ hs3 hr3 => ?_) (ops.drop (i + 1)) s2.bare a2 w2 (dstB_sub hb fun x hx => List.mem_of_mem_drop hx) hn2 ⟨_, hf2.rel ro⟩ (wk_walkS _ _ hs2)
  · rw [List.append_nil] at this; exact this
  · obtain ⟨K3, p1, p2, p3⟩ := flat_after hf2 hJ hj2 hr3
    exact wpListIn_nil ⟨_, g2, K3, hs3, p1, p2, he2.trans p3⟩
end
end
end Go.Dl

/- The reading of arguments, with their size. -/
namespace Go.Dl
open Go.RowKit Go.ChangeShapes Go.WideShapes Go.ChangeAt

def sizeV : (s : Sh) → Val s → Nat
  | .int _, _ => 1
  | .bool, _ => 1
  | .str, s => (show ByteArray from s).size + 1
  | .sl _ e, l => 1 + ((show List (Val e) from l).map (sizeV e)).sum
  | .nil, _ => 0
  | .cons f r, x => sizeV f x.1 + sizeV r x.2

structure IsBulk {H : Type} (B : DataW H → Nat) : Prop where
  pos : ∀ d, 1 ≤ B d
  str : ∀ bs : List UInt8, bs.length + 1 ≤ B (.lit (.string bs))
  sl : ∀ es ss : List (DataW H), 1 + (es.map B).sum ≤ B (.slice es ss)
  agg : ∀ ps : List (DataW H), (ps.map B).sum ≤ B (.agg ps)

section
variable {P : Program} {H : Type} {enc : TypeId × Value → H} {w : World} {sp : Nat → Bool} {held : Bool}
theorem trod_B {B : DataW H → Nat} (hB : IsBulk B) : (s : Sh) → (∀ (t : TypeId), Program.has P s (.inl t) = true → ∀ (fuel : Nat) (vs : List Value) x, DataW.trod enc P w 0 sp held fuel t vs = some x → ∃ a : Val s, s.ok a ∧ CellsC w (s.enc a) vs ∧ sizeV s a ≤ B x.1) ∧
    (∀ (fs : List Field) (o : Nat), Program.has P s (.inr (fs, o)) = true → ∀ (fuel : Nat) (vs : List Value), ∀ ys : List (DataW H × List MemPlace), ys.length = fs.length → (∀ (i : Nat) (f : Field), fs[i]? = some f → DataW.trod enc P w 0 sp held fuel f.type ((vs.drop f.offset).take (P.cellsOf f.type)) = ys[i]?) → vs.length = o + s.size →
      ∃ a : Val s, s.ok a ∧ CellsC w (s.enc a) (vs.drop o) ∧ sizeV s a ≤ (ys.map fun y => B y.1).sum)
  | .int k => by
    refine ⟨fun t ht fuel vs x h => ?_, fun fs o h => by simp [Program.has] at h⟩
    simp only [Program.has] at ht
    split at ht
    · rename_i k' hu
      have hk : k' = k := by simpa using ht
      subst hk
      obtain ⟨n, rfl, _, hw⟩ := DataW.trod_int hu h
      exact ⟨n, hw, CellsC.one (.lit _ rfl), hB.pos _⟩
    · cases ht
  | .bool => by
    refine ⟨fun t ht fuel vs x h => ?_, fun fs o h => by simp [Program.has] at h⟩
    simp only [Program.has] at ht
    split at ht
    · rename_i hu
      obtain ⟨b, rfl, _⟩ := DataW.trod_bool hu h
      exact ⟨b, trivial, CellsC.one (.lit _ rfl), hB.pos _⟩
    · cases ht
  | .str => by
    refine ⟨fun t ht fuel vs x h => ?_, fun fs o h => by simp [Program.has] at h⟩
    simp only [Program.has] at ht
    split at ht
    · rename_i hu
      obtain ⟨s, rfl, rfl, hs⟩ := DataW.trod_string hu h
      exact ⟨s, hs, CellsC.one (.lit _ rfl), by have := hB.str s.data.toList; simp only [sizeV]; simpa using this⟩
    · cases ht
  | .sl sz e => by
    refine ⟨fun t ht fuel vs x h => ?_, fun fs o h => by simp [Program.has] at h⟩
    simp only [Program.has] at ht
    split at ht
    · rename_i el hu
      simp only [Bool.and_eq_true, beq_iff_eq, decide_eq_true_eq] at ht
      obtain ⟨⟨⟨hc, hpos⟩, hes⟩, he⟩ := ht
      rcases Go.Deep.open_slice hu h with ⟨rfl, rfl⟩ | ⟨a, len, cap, m, n, D, Pl, rfl, hb, hl, hm, hmm, rfl, hx⟩
      · exact ⟨([] : List (Val e)), ⟨by simp, by simp⟩, CellsC.one (.nil sz), hB.pos _⟩
      · have hlm : len ≤ m := by subst hmm; split <;> omega
        have each : ∀ i, i < len → ∃ y : Val e, e.ok y ∧ ∃ cs', w.cells? 0 (a.add (i * sz)) sz = some cs' ∧ CellsC w (e.enc y) cs' ∧ sizeV e y ≤ B (D i) := fun i hi => by
          obtain ⟨cs', h1, h2⟩ := hx i (by omega)
          rw [hc] at h1
          obtain ⟨y, hy, hy2⟩ := (trod_B hB e).1 el he n cs' _ h2
          exact ⟨y, hy, cs', h1, hy2.1, hy2.2⟩
        have build : ∀ k, k ≤ len → ∃ l : List (Val e), l.length = k ∧ (∀ y ∈ l, e.ok y) ∧ (∀ i y, l[i]? = some y → ∃ cs', w.cells? 0 (a.add (i * sz)) sz = some cs' ∧ CellsC w (e.enc y) cs') ∧ (l.map (sizeV e)).sum ≤ ((List.range k).map fun i => B (D i)).sum := by
          intro k
          induction k with
          | zero => exact fun _ => ⟨[], rfl, by simp, by simp, by simp⟩
          | succ k ih =>
            intro hk
            obtain ⟨l, h1, h2, h3, h6⟩ := ih (by omega)
            obtain ⟨y, hy, cs', h4, h5, h7⟩ := each k (by omega)
            refine ⟨l ++ [y], by simp [h1], fun z hz => ?_, fun i z hz => ?_, by simp [List.range_succ]; omega⟩
            · rcases List.mem_append.1 hz with hz | hz
              · exact h2 z hz
              · rw [List.mem_singleton.1 hz]; exact hy
            · rw [List.getElem?_append] at hz
              split at hz
              · exact h3 i z hz
              · rename_i hi
                have : i = k := by
                  rcases Nat.lt_or_ge (i - l.length) 1 with h | h
                  · omega
                  · rw [List.getElem?_eq_none (by simpa using h)] at hz; cases hz
                subst this
                rw [h1, Nat.sub_self] at hz
                simp at hz; subst hz
                exact ⟨cs', h4, h5⟩
        obtain ⟨l, hll, hok, hcell, hsum⟩ := build len (Nat.le_refl _)
        subst hll
        refine ⟨l, ⟨by show l.length ≤ _; omega, hok⟩, CellsC.one ?_, by have := hB.sl ((List.range l.length).map D) ((List.range (m - l.length)).map fun j => D (l.length + j)); simp only [sizeV]; rw [List.map_map] at this; exact Nat.le_trans (Nat.add_le_add_left hsum 1) this⟩
        show VC w (Kall w) (.sl sz (l.map (Sh.enc e))) _
        have hlen : (l.map (Sh.enc e)).length = l.length := by simp
        have hsplit : ∀ j, j < l.length * sz → j / sz < l.length := fun j hj => Nat.div_lt_of_lt_mul (by rw [Nat.mul_comm]; exact hj)
        have hspot : 0 < l.length * sz → a.spot = none := fun h0 => by
          have hi : 0 < l.length := Nat.pos_of_mul_pos_right h0
          obtain ⟨cs', h1, h2⟩ := hcell 0 _ (List.getElem?_eq_getElem hi)
          obtain ⟨g1, g2⟩ := cells?_get h1
          have := g2 0 hpos
          rw [List.getElem?_eq_getElem (by omega)] at this
          simpa [Addr.add] using World.cell?_spot this
        have hcv : ∀ i j, i < l.length → j < sz → a.spot = none → ∃ y cs' v, l[i]? = some y ∧ cs'[j]? = some v ∧ CellsC w (e.enc y) cs' ∧ w.cell? ⟨a.block, a.off + (i * sz + j), none⟩ = some v := fun i j hi hj hs => by
          obtain ⟨cs', h1, h2⟩ := hcell i _ (List.getElem?_eq_getElem hi)
          obtain ⟨g1, g2⟩ := cells?_get h1
          have h3 := g2 j hj
          have hcj : cs'[j]? = some (cs'[j]'(by omega)) := List.getElem?_eq_getElem (by omega)
          have ha : a = ⟨a.block, a.off, none⟩ := by cases a; simp at hs; subst hs; rfl
          rw [ha, add_none, add_none, hcj] at h3
          refine ⟨_, cs', _, List.getElem?_eq_getElem hi, hcj, h2, ?_⟩
          rw [← h3, Nat.add_assoc]
        rw [show (Value.slice (some a) l.length cap) = .slice (some a) (l.map (Sh.enc e)).length cap by rw [hlen]]
        refine .sl sz _ a cap (fun j => (w.cell? ⟨a.block, a.off + j, none⟩).getD undef) (fun r hr => ?_) (by rw [hlen]; exact hl) hm (fun j hj => ?_) (fun i j r c hr hc => ?_)
        · obtain ⟨y, _, rfl⟩ := List.mem_map.1 hr
          rw [Sh.enc_len, hes]
        · rw [hlen] at hj
          have hs := hspot (by omega)
          obtain ⟨y, cs', v, _, _, _, h⟩ := hcv (j / sz) (j % sz) (hsplit j hj) (Nat.mod_lt _ hpos) hs
          have hd := Nat.div_add_mod j sz
          rw [Nat.mul_comm] at hd
          rw [hd] at h
          exact ⟨hs, by simp [Kall, h], by simp [h]⟩
        · rw [List.getElem?_map] at hr
          cases hy : l[i]? with
          | none => rw [hy] at hr; cases hr
          | some y =>
            rw [hy] at hr; injection hr with hr; subst hr
            have hi : i < l.length := (List.getElem?_eq_some_iff.1 hy).1
            have hj : j < sz := by
              have := (List.getElem?_eq_some_iff.1 hc).1
              rw [Sh.enc_len, hes] at this; exact this
            have hs := hspot (Nat.mul_pos (by omega) hpos)
            obtain ⟨y', cs', v, h1, h2, h3, h4⟩ := hcv i j hi hj hs
            rw [hy] at h1; injection h1 with h1; subst h1
            have := h3.2 j c v hc h2
            simpa [h4] using this
    · cases ht
  | .nil => by
    refine ⟨fun t ht => by simp [Program.has] at ht, fun fs o h fuel vs ys hy hf hl => ⟨(), trivial, ?_, Nat.zero_le _⟩⟩
    simp [Sh.size] at hl
    exact ⟨by simp [Sh.enc, hl], fun j c v h => by simp [Sh.enc] at h⟩
  | .cons f r => by
    have key : ∀ (fs : List Field) (o : Nat) fd rest, fs = fd :: rest → fd.offset = o → P.cellsOf fd.type = f.size → Program.has P f (.inl fd.type) = true → Program.has P r (.inr (rest, o + f.size)) = true →
        ∀ (fuel : Nat) (vs : List Value), ∀ ys : List (DataW H × List MemPlace), ys.length = fs.length → (∀ (i : Nat) (f : Field), fs[i]? = some f → DataW.trod enc P w 0 sp held fuel f.type ((vs.drop f.offset).take (P.cellsOf f.type)) = ys[i]?) → vs.length = o + (Sh.cons f r).size →
        ∃ a : Val (.cons f r), Sh.ok (.cons f r) a ∧ CellsC w (Sh.enc (.cons f r) a) (vs.drop o) ∧ sizeV (.cons f r) a ≤ (ys.map fun y => B y.1).sum := fun fs o fd rest e1 e2 e3 e4 e5 fuel vs ys hyl hf hl => by
      subst e1
      cases ys with
      | nil => simp at hyl
      | cons y ys =>
      have hy := hf 0 fd rfl
      rw [e2, e3] at hy
      obtain ⟨a, ha, hca, hsa⟩ := (trod_B hB f).1 _ e4 fuel _ y hy
      simp only [Sh.size] at hl
      obtain ⟨b, hb, hcb, hsb⟩ := (trod_B hB r).2 rest (o + f.size) e5 fuel vs ys (by simpa using hyl) (fun i g hg => by simpa using hf (i + 1) g (by simpa using hg)) (by omega)
      refine ⟨(a, b), ⟨ha, hb⟩, ?_, by simp only [sizeV, List.map_cons, List.sum_cons]; omega⟩
      have : vs.drop o = (vs.drop o).take f.size ++ vs.drop (o + f.size) := by
        rw [← List.drop_drop, List.take_append_drop]
      rw [this]
      exact hca.app hcb
    refine ⟨fun t ht fuel vs x h => ?_, fun fs o h fuel vs ys hyl hf hl => ?_⟩
    · simp only [Program.has] at ht
      split at ht
      · rename_i fa hu
        split at ht
        · rename_i fd rest hfs
          simp only [Bool.and_eq_true, beq_iff_eq] at ht
          obtain ⟨⟨⟨⟨h1, h2⟩, h3⟩, h4⟩, h5⟩ := ht
          obtain ⟨xs, n, _, rfl, hlen, hxl, hx⟩ := DataW.trod_struct hu h
          obtain ⟨a, q1, q2, q3⟩ := key fa.toList 0 fd rest hfs h2 h3 h4 (by simpa using h5) n vs xs (by simpa using hxl) (fun i g hg => hx i g (by simpa using hg)) (by simp only [Sh.size]; omega)
          refine ⟨a, q1, by simpa using q2, Nat.le_trans q3 ?_⟩
          have := hB.agg (xs.map (·.1))
          rw [List.map_map] at this; exact this
        · cases ht
      · cases ht
    · simp only [Program.has] at h
      split at h
      · rename_i fd rest
        simp only [Bool.and_eq_true, beq_iff_eq] at h
        obtain ⟨⟨⟨h2, h3⟩, h4⟩, h5⟩ := h
        exact key _ o fd rest rfl h2 h3 h4 h5 fuel vs ys hyl hf hl
      · cases h
end

theorem arg_readB {P : Program} {H : Type} {enc : TypeId × Value → H} {B : DataW H → Nat} (hB : IsBulk B) {w : World} {t : TypeId} {v : Value} {d : DataW H} {ps : List MemPlace} {base : Nat} (s : Sh) (hs : Program.has P s (.inl t) = true)
    (hok : Value.okWide P w .any base t v) (h : DataW.Trod enc P w 0 (fun _ => true) true t v d ps) : ∃ a : Val s, s.ok a ∧ VD w (E0 (Kall w)) (ArgD s a) v ∧ sizeV s a ≤ B d := by
  obtain ⟨fuel, hf⟩ := h
  obtain ⟨a, ha, hc, hsz⟩ := (trod_B hB s).1 t hs fuel _ _ hf
  refine ⟨a, ha, ?_, hsz⟩
  have single : ∀ c : C, s.enc a = [c] → (∃ x, v = x ∧ x.cells = #[x]) → VD w (E0 (Kall w)) (.one (.c c)) v := fun c e ⟨x, e1, e2⟩ => by
    subst e1
    rw [e, e2] at hc
    exact .one _ _ (.c _ _ hc.one_inv)
  have aggr : (∃ cs, v = .agg cs) → VD w (E0 (Kall w)) (.agg ((s.enc a).map T.c)) v := fun ⟨cs, e⟩ => by
    subst e
    have hcs : CellsC w (s.enc a) cs.toList := hc
    refine .agg _ _ (by have := hcs.1; simpa using this) fun j t v h1 h2 => ?_
    rw [List.getElem?_map] at h1
    cases hx : (s.enc a)[j]? with
    | none => rw [hx] at h1; cases h1
    | some c =>
      rw [hx] at h1; injection h1 with h1; subst h1
      exact .c _ _ (hcs.2 j c v hx (by simpa using h2))
  cases s with
  | int k =>
    simp only [Program.has] at hs
    split at hs
    · rename_i k' hu
      obtain ⟨n, rfl⟩ := okWide_int hu hok
      exact single _ rfl ⟨_, rfl, rfl⟩
    · cases hs
  | bool =>
    simp only [Program.has] at hs
    split at hs
    · rename_i hu
      obtain ⟨n, rfl⟩ := okWide_bool hu hok
      exact single _ rfl ⟨_, rfl, rfl⟩
    · cases hs
  | str =>
    simp only [Program.has] at hs
    split at hs
    · rename_i hu
      obtain ⟨n, rfl⟩ := okWide_string hu hok
      exact single _ rfl ⟨_, rfl, rfl⟩
    · cases hs
  | sl sz e =>
    simp only [Program.has] at hs
    split at hs
    · rename_i el hu
      obtain ⟨x, len, cap, rfl⟩ := okWide_slice hu hok
      exact single _ rfl ⟨_, rfl, rfl⟩
    · cases hs
  | nil => simp [Program.has] at hs
  | cons f r =>
    simp only [Program.has] at hs
    split at hs
    · rename_i fs hu
      simp only [Value.okWide, hu] at hok
      obtain ⟨cs, rfl, _⟩ := hok
      exact aggr ⟨cs, rfl⟩
    · cases hs

end Go.Dl

attribute [go_sem] reduceIte reduceCtorEq Nat.reduceEqDiff Nat.reduceAdd Nat.reduceMul Nat.reduceSub Nat.reduceLeDiff Nat.reduceBEq

/- Closed facts of the types of this translation, each asked of the kernel. -/
namespace Go.Proofs.YtdmmhemfnnbddaaGreatDoor
open Go.Dl
open Go.Dl renaming dw_seq → kA, dw_block → kB, dw_reg → kC, dw_skip → kD, dw_exit → kE, dw_ret → kF, dw_cond → kG, guardC_f → kH, guardC_t → kI, dw_drw → kJ, dw_weaken → kK, sub_kn → kL, sub_ml → kM
open Go.Dl.CallC renaming mk → kN, light → kO
open Go.Dl.LeL renaming of_eq → kP
@[go_sem] theorem ldk_3 : Program.ldk Tryz.prog 3 = some none := by kernel_rfl
@[go_sem] theorem cellsOfT_3 : cellsOfT Tryz.prog 3 = some 1 := by kernel_rfl
@[go_sem] theorem zeroC_3 : Program.zeroC Tryz.prog 3 = some [.lit (.int .i64 0)] := by kernel_rfl
@[go_sem] theorem zeroT_3 : Program.zeroT Tryz.prog 3 = some [.c (.lit (.int .i64 0))] := by kernel_rfl
attribute [go_sem] Tryz.underlying3
@[go_sem] theorem ldk_4 : Program.ldk Tryz.prog 4 = some none := by kernel_rfl
@[go_sem] theorem cellsOfT_4 : cellsOfT Tryz.prog 4 = some 1 := by kernel_rfl
@[go_sem] theorem zeroC_4 : Program.zeroC Tryz.prog 4 = some [.lit (.bool false)] := by kernel_rfl
@[go_sem] theorem zeroT_4 : Program.zeroT Tryz.prog 4 = some [.c (.lit (.bool false))] := by kernel_rfl
attribute [go_sem] Tryz.underlying4
@[go_sem] theorem isBoolT_4 : Program.isBoolT Tryz.prog 4 = true := by kernel_rfl
@[go_sem] theorem ldk_5 : Program.ldk Tryz.prog 5 = some none := by kernel_rfl
@[go_sem] theorem cellsOfT_5 : cellsOfT Tryz.prog 5 = some 1 := by kernel_rfl
@[go_sem] theorem zeroC_5 : Program.zeroC Tryz.prog 5 = some [.lit (.int .u8 0)] := by kernel_rfl
@[go_sem] theorem zeroT_5 : Program.zeroT Tryz.prog 5 = some [.c (.lit (.int .u8 0))] := by kernel_rfl
attribute [go_sem] Tryz.underlying5
@[go_sem] theorem ldk_9 : Program.ldk Tryz.prog 9 = some none := by kernel_rfl
@[go_sem] theorem cellsOfT_9 : cellsOfT Tryz.prog 9 = some 1 := by kernel_rfl
@[go_sem] theorem zeroC_9 : Program.zeroC Tryz.prog 9 = some [.lit (.string ⟨#[]⟩)] := by kernel_rfl
@[go_sem] theorem zeroT_9 : Program.zeroT Tryz.prog 9 = some [.c (.lit (.string ⟨#[]⟩))] := by kernel_rfl
attribute [go_sem] Tryz.underlying9
@[go_sem] theorem ldk_21 : Program.ldk Tryz.prog 21 = some none := by kernel_rfl
@[go_sem] theorem cellsOfT_21 : cellsOfT Tryz.prog 21 = some 1 := by kernel_rfl
@[go_sem] theorem zeroC_21 : Program.zeroC Tryz.prog 21 = some [.lit (.int .i32 0)] := by kernel_rfl
@[go_sem] theorem zeroT_21 : Program.zeroT Tryz.prog 21 = some [.c (.lit (.int .i32 0))] := by kernel_rfl
attribute [go_sem] Tryz.underlying21
@[go_sem] theorem ldk_22 : Program.ldk Tryz.prog 22 = some none := by kernel_rfl
@[go_sem] theorem cellsOfT_22 : cellsOfT Tryz.prog 22 = some 1 := by kernel_rfl
@[go_sem] theorem elemSz_22 : Program.elemSz Tryz.prog 22 = some 2 := by kernel_rfl
@[go_sem] theorem appInfo_22 : appInfo Tryz.prog 22 = some (2, 24) := by kernel_rfl
@[go_sem] theorem zeroC_22 : Program.zeroC Tryz.prog 22 = some [.sl 2 []] := by kernel_rfl
@[go_sem] theorem zeroT_22 : Program.zeroT Tryz.prog 22 = some [.ex 2 []] := by kernel_rfl
@[go_sem] theorem nilT_22 : Program.nilT Tryz.prog 22 = true := by kernel_rfl
attribute [go_sem] Tryz.underlying22
@[go_sem] theorem ldk_24 : Program.ldk Tryz.prog 24 = some (some 1) := by kernel_rfl
@[go_sem] theorem cellsOfT_24 : cellsOfT Tryz.prog 24 = some 1 := by kernel_rfl
@[go_sem] theorem zeroC_24 : Program.zeroC Tryz.prog 24 = some [.sl 2 []] := by kernel_rfl
@[go_sem] theorem zeroT_24 : Program.zeroT Tryz.prog 24 = some [.ex 2 []] := by kernel_rfl
@[go_sem] theorem places_24 : Program.places Tryz.prog 24 = some [(0, 1)] := by kernel_rfl
@[go_sem] theorem fieldOff_24_0 : Program.fieldOff Tryz.prog 24 0 = some 0 := by kernel_rfl
@[go_sem] theorem ldk_25 : Program.ldk Tryz.prog 25 = some none := by kernel_rfl
@[go_sem] theorem cellsOfT_25 : cellsOfT Tryz.prog 25 = some 1 := by kernel_rfl
@[go_sem] theorem elemSz_25 : Program.elemSz Tryz.prog 25 = some 8 := by kernel_rfl
@[go_sem] theorem appInfo_25 : appInfo Tryz.prog 25 = some (8, 144) := by kernel_rfl
@[go_sem] theorem zeroC_25 : Program.zeroC Tryz.prog 25 = some [.sl 8 []] := by kernel_rfl
@[go_sem] theorem zeroT_25 : Program.zeroT Tryz.prog 25 = some [.ex 8 []] := by kernel_rfl
@[go_sem] theorem nilT_25 : Program.nilT Tryz.prog 25 = true := by kernel_rfl
attribute [go_sem] Tryz.underlying25
@[go_sem] theorem ldk_27 : Program.ldk Tryz.prog 27 = some (some 2) := by kernel_rfl
@[go_sem] theorem cellsOfT_27 : cellsOfT Tryz.prog 27 = some 2 := by kernel_rfl
@[go_sem] theorem zeroC_27 : Program.zeroC Tryz.prog 27 = some [.sl 2 [], .sl 8 []] := by kernel_rfl
@[go_sem] theorem zeroT_27 : Program.zeroT Tryz.prog 27 = some [.ex 2 [], .ex 8 []] := by kernel_rfl
@[go_sem] theorem places_27 : Program.places Tryz.prog 27 = some [(0, 1), (1, 1)] := by kernel_rfl
@[go_sem] theorem fieldOff_27_0 : Program.fieldOff Tryz.prog 27 0 = some 0 := by kernel_rfl
@[go_sem] theorem fieldOff_27_1 : Program.fieldOff Tryz.prog 27 1 = some 1 := by kernel_rfl
@[go_sem] theorem ldk_30 : Program.ldk Tryz.prog 30 = some none := by kernel_rfl
@[go_sem] theorem cellsOfT_30 : cellsOfT Tryz.prog 30 = some 1 := by kernel_rfl
@[go_sem] theorem zeroC_30 : Program.zeroC Tryz.prog 30 = some [.lit (.int .i64 0)] := by kernel_rfl
@[go_sem] theorem zeroT_30 : Program.zeroT Tryz.prog 30 = some [.c (.lit (.int .i64 0))] := by kernel_rfl
attribute [go_sem] Tryz.underlying30
@[go_sem] theorem ldk_33 : Program.ldk Tryz.prog 33 = some none := by kernel_rfl
@[go_sem] theorem cellsOfT_33 : cellsOfT Tryz.prog 33 = some 1 := by kernel_rfl
@[go_sem] theorem elemSz_33 : Program.elemSz Tryz.prog 33 = some 1 := by kernel_rfl
@[go_sem] theorem appInfo_33 : appInfo Tryz.prog 33 = some (1, 8) := by kernel_rfl
@[go_sem] theorem zeroC_33 : Program.zeroC Tryz.prog 33 = some [.sl 1 []] := by kernel_rfl
@[go_sem] theorem zeroT_33 : Program.zeroT Tryz.prog 33 = some [.ex 1 []] := by kernel_rfl
@[go_sem] theorem nilT_33 : Program.nilT Tryz.prog 33 = true := by kernel_rfl
attribute [go_sem] Tryz.underlying33
@[go_sem] theorem ldk_34 : Program.ldk Tryz.prog 34 = some none := by kernel_rfl
@[go_sem] theorem cellsOfT_34 : cellsOfT Tryz.prog 34 = some 1 := by kernel_rfl
@[go_sem] theorem elemSz_34 : Program.elemSz Tryz.prog 34 = some 1 := by kernel_rfl
@[go_sem] theorem appInfo_34 : appInfo Tryz.prog 34 = some (1, 24) := by kernel_rfl
@[go_sem] theorem zeroC_34 : Program.zeroC Tryz.prog 34 = some [.sl 1 []] := by kernel_rfl
@[go_sem] theorem zeroT_34 : Program.zeroT Tryz.prog 34 = some [.ex 1 []] := by kernel_rfl
@[go_sem] theorem nilT_34 : Program.nilT Tryz.prog 34 = true := by kernel_rfl
attribute [go_sem] Tryz.underlying34
@[go_sem] theorem ldk_35 : Program.ldk Tryz.prog 35 = some none := by kernel_rfl
@[go_sem] theorem cellsOfT_35 : cellsOfT Tryz.prog 35 = some 1 := by kernel_rfl
@[go_sem] theorem elemSz_35 : Program.elemSz Tryz.prog 35 = some 2 := by kernel_rfl
@[go_sem] theorem appInfo_35 : appInfo Tryz.prog 35 = some (2, 32) := by kernel_rfl
@[go_sem] theorem zeroC_35 : Program.zeroC Tryz.prog 35 = some [.sl 2 []] := by kernel_rfl
@[go_sem] theorem zeroT_35 : Program.zeroT Tryz.prog 35 = some [.ex 2 []] := by kernel_rfl
@[go_sem] theorem nilT_35 : Program.nilT Tryz.prog 35 = true := by kernel_rfl
attribute [go_sem] Tryz.underlying35
@[go_sem] theorem ldk_36 : Program.ldk Tryz.prog 36 = some none := by kernel_rfl
@[go_sem] theorem cellsOfT_36 : cellsOfT Tryz.prog 36 = some 1 := by kernel_rfl
@[go_sem] theorem elemSz_36 : Program.elemSz Tryz.prog 36 = some 2 := by kernel_rfl
@[go_sem] theorem appInfo_36 : appInfo Tryz.prog 36 = some (2, 16) := by kernel_rfl
@[go_sem] theorem zeroC_36 : Program.zeroC Tryz.prog 36 = some [.sl 2 []] := by kernel_rfl
@[go_sem] theorem zeroT_36 : Program.zeroT Tryz.prog 36 = some [.ex 2 []] := by kernel_rfl
@[go_sem] theorem nilT_36 : Program.nilT Tryz.prog 36 = true := by kernel_rfl
attribute [go_sem] Tryz.underlying36
@[go_sem] theorem ldk_37 : Program.ldk Tryz.prog 37 = some none := by kernel_rfl
@[go_sem] theorem cellsOfT_37 : cellsOfT Tryz.prog 37 = some 1 := by kernel_rfl
@[go_sem] theorem elemSz_37 : Program.elemSz Tryz.prog 37 = some 2 := by kernel_rfl
@[go_sem] theorem appInfo_37 : appInfo Tryz.prog 37 = some (2, 16) := by kernel_rfl
@[go_sem] theorem zeroC_37 : Program.zeroC Tryz.prog 37 = some [.sl 2 []] := by kernel_rfl
@[go_sem] theorem zeroT_37 : Program.zeroT Tryz.prog 37 = some [.ex 2 []] := by kernel_rfl
@[go_sem] theorem nilT_37 : Program.nilT Tryz.prog 37 = true := by kernel_rfl
attribute [go_sem] Tryz.underlying37
@[go_sem] theorem ldk_39 : Program.ldk Tryz.prog 39 = some (some 8) := by kernel_rfl
@[go_sem] theorem cellsOfT_39 : cellsOfT Tryz.prog 39 = some 8 := by kernel_rfl
@[go_sem] theorem zeroC_39 : Program.zeroC Tryz.prog 39 = some [.lit (.int .i64 0), .sl 1 [], .lit (.int .i64 0), .sl 1 [], .lit (.int .i64 0), .sl 2 [], .sl 2 [], .sl 2 []] := by kernel_rfl
@[go_sem] theorem zeroT_39 : Program.zeroT Tryz.prog 39 = some [.c (.lit (.int .i64 0)), .ex 1 [], .c (.lit (.int .i64 0)), .ex 1 [], .c (.lit (.int .i64 0)), .ex 2 [], .ex 2 [], .ex 2 []] := by kernel_rfl
@[go_sem] theorem places_39 : Program.places Tryz.prog 39 = some [(0, 1), (1, 1), (2, 1), (3, 1), (4, 1), (5, 1), (6, 1), (7, 1)] := by kernel_rfl
@[go_sem] theorem fieldOff_39_0 : Program.fieldOff Tryz.prog 39 0 = some 0 := by kernel_rfl
@[go_sem] theorem fieldOff_39_1 : Program.fieldOff Tryz.prog 39 1 = some 1 := by kernel_rfl
@[go_sem] theorem fieldOff_39_2 : Program.fieldOff Tryz.prog 39 2 = some 2 := by kernel_rfl
@[go_sem] theorem fieldOff_39_3 : Program.fieldOff Tryz.prog 39 3 = some 3 := by kernel_rfl
@[go_sem] theorem fieldOff_39_4 : Program.fieldOff Tryz.prog 39 4 = some 4 := by kernel_rfl
@[go_sem] theorem fieldOff_39_5 : Program.fieldOff Tryz.prog 39 5 = some 5 := by kernel_rfl
@[go_sem] theorem fieldOff_39_6 : Program.fieldOff Tryz.prog 39 6 = some 6 := by kernel_rfl
@[go_sem] theorem fieldOff_39_7 : Program.fieldOff Tryz.prog 39 7 = some 7 := by kernel_rfl
@[go_sem] theorem ldk_42 : Program.ldk Tryz.prog 42 = some none := by kernel_rfl
@[go_sem] theorem cellsOfT_42 : cellsOfT Tryz.prog 42 = some 1 := by kernel_rfl
@[go_sem] theorem zeroC_42 : Program.zeroC Tryz.prog 42 = some [.lit .nilFunc] := by kernel_rfl
@[go_sem] theorem zeroT_42 : Program.zeroT Tryz.prog 42 = some [.c (.lit .nilFunc)] := by kernel_rfl
attribute [go_sem] Tryz.underlying42
@[go_sem] theorem ldk_46 : Program.ldk Tryz.prog 46 = some (some 3) := by kernel_rfl
@[go_sem] theorem cellsOfT_46 : cellsOfT Tryz.prog 46 = some 3 := by kernel_rfl
@[go_sem] theorem zeroC_46 : Program.zeroC Tryz.prog 46 = some [.sl 1 [], .lit (.int .i64 0), .lit (.string ⟨#[]⟩)] := by kernel_rfl
@[go_sem] theorem zeroT_46 : Program.zeroT Tryz.prog 46 = some [.ex 1 [], .c (.lit (.int .i64 0)), .c (.lit (.string ⟨#[]⟩))] := by kernel_rfl
@[go_sem] theorem places_46 : Program.places Tryz.prog 46 = some [(0, 1), (1, 1), (2, 1)] := by kernel_rfl
@[go_sem] theorem fieldOff_46_0 : Program.fieldOff Tryz.prog 46 0 = some 0 := by kernel_rfl
@[go_sem] theorem fieldOff_46_1 : Program.fieldOff Tryz.prog 46 1 = some 1 := by kernel_rfl
@[go_sem] theorem fieldOff_46_2 : Program.fieldOff Tryz.prog 46 2 = some 2 := by kernel_rfl
@[go_sem] theorem ldk_47 : Program.ldk Tryz.prog 47 = some none := by kernel_rfl
@[go_sem] theorem cellsOfT_47 : cellsOfT Tryz.prog 47 = some 1 := by kernel_rfl
@[go_sem] theorem zeroC_47 : Program.zeroC Tryz.prog 47 = some [.lit .nilFunc] := by kernel_rfl
@[go_sem] theorem zeroT_47 : Program.zeroT Tryz.prog 47 = some [.c (.lit .nilFunc)] := by kernel_rfl
attribute [go_sem] Tryz.underlying47
@[go_sem] theorem ldk_62 : Program.ldk Tryz.prog 62 = some (some 2) := by kernel_rfl
@[go_sem] theorem cellsOfT_62 : cellsOfT Tryz.prog 62 = some 2 := by kernel_rfl
@[go_sem] theorem zeroC_62 : Program.zeroC Tryz.prog 62 = some [.lit (.string ⟨#[]⟩), .lit (.int .i64 0)] := by kernel_rfl
@[go_sem] theorem zeroT_62 : Program.zeroT Tryz.prog 62 = some [.c (.lit (.string ⟨#[]⟩)), .c (.lit (.int .i64 0))] := by kernel_rfl
@[go_sem] theorem places_62 : Program.places Tryz.prog 62 = some [(0, 1), (1, 1)] := by kernel_rfl
@[go_sem] theorem fieldOff_62_0 : Program.fieldOff Tryz.prog 62 0 = some 0 := by kernel_rfl
@[go_sem] theorem fieldOff_62_1 : Program.fieldOff Tryz.prog 62 1 = some 1 := by kernel_rfl
@[go_sem] theorem ldk_65 : Program.ldk Tryz.prog 65 = some (some 2) := by kernel_rfl
@[go_sem] theorem cellsOfT_65 : cellsOfT Tryz.prog 65 = some 2 := by kernel_rfl
@[go_sem] theorem zeroC_65 : Program.zeroC Tryz.prog 65 = some [.lit (.string ⟨#[]⟩), .lit (.string ⟨#[]⟩)] := by kernel_rfl
@[go_sem] theorem zeroT_65 : Program.zeroT Tryz.prog 65 = some [.c (.lit (.string ⟨#[]⟩)), .c (.lit (.string ⟨#[]⟩))] := by kernel_rfl
@[go_sem] theorem places_65 : Program.places Tryz.prog 65 = some [(0, 1), (1, 1)] := by kernel_rfl
@[go_sem] theorem fieldOff_65_0 : Program.fieldOff Tryz.prog 65 0 = some 0 := by kernel_rfl
@[go_sem] theorem fieldOff_65_1 : Program.fieldOff Tryz.prog 65 1 = some 1 := by kernel_rfl
@[go_sem] theorem ldk_70 : Program.ldk Tryz.prog 70 = some none := by kernel_rfl
@[go_sem] theorem cellsOfT_70 : cellsOfT Tryz.prog 70 = some 1 := by kernel_rfl
@[go_sem] theorem zeroC_70 : Program.zeroC Tryz.prog 70 = some [.lit .nilFunc] := by kernel_rfl
@[go_sem] theorem zeroT_70 : Program.zeroT Tryz.prog 70 = some [.c (.lit .nilFunc)] := by kernel_rfl
attribute [go_sem] Tryz.underlying70
@[go_sem] theorem ldk_71 : Program.ldk Tryz.prog 71 = some none := by kernel_rfl
@[go_sem] theorem cellsOfT_71 : cellsOfT Tryz.prog 71 = some 1 := by kernel_rfl
@[go_sem] theorem zeroC_71 : Program.zeroC Tryz.prog 71 = some [.lit .nilFunc] := by kernel_rfl
@[go_sem] theorem zeroT_71 : Program.zeroT Tryz.prog 71 = some [.c (.lit .nilFunc)] := by kernel_rfl
attribute [go_sem] Tryz.underlying71
@[go_sem] theorem ldk_74 : Program.ldk Tryz.prog 74 = some (some 2) := by kernel_rfl
@[go_sem] theorem cellsOfT_74 : cellsOfT Tryz.prog 74 = some 2 := by kernel_rfl
@[go_sem] theorem zeroC_74 : Program.zeroC Tryz.prog 74 = some [.lit (.int .i64 0), .lit (.int .i64 0)] := by kernel_rfl
@[go_sem] theorem zeroT_74 : Program.zeroT Tryz.prog 74 = some [.c (.lit (.int .i64 0)), .c (.lit (.int .i64 0))] := by kernel_rfl
@[go_sem] theorem places_74 : Program.places Tryz.prog 74 = some [(0, 1), (1, 1)] := by kernel_rfl
@[go_sem] theorem fieldOff_74_0 : Program.fieldOff Tryz.prog 74 0 = some 0 := by kernel_rfl
@[go_sem] theorem fieldOff_74_1 : Program.fieldOff Tryz.prog 74 1 = some 1 := by kernel_rfl
@[go_sem] theorem ldk_75 : Program.ldk Tryz.prog 75 = some none := by kernel_rfl
@[go_sem] theorem cellsOfT_75 : cellsOfT Tryz.prog 75 = some 1 := by kernel_rfl
@[go_sem] theorem zeroC_75 : Program.zeroC Tryz.prog 75 = some [.lit .nilFunc] := by kernel_rfl
@[go_sem] theorem zeroT_75 : Program.zeroT Tryz.prog 75 = some [.c (.lit .nilFunc)] := by kernel_rfl
attribute [go_sem] Tryz.underlying75
@[go_sem] theorem ldk_77 : Program.ldk Tryz.prog 77 = some none := by kernel_rfl
@[go_sem] theorem cellsOfT_77 : cellsOfT Tryz.prog 77 = some 1 := by kernel_rfl
@[go_sem] theorem zeroC_77 : Program.zeroC Tryz.prog 77 = some [.lit .nilFunc] := by kernel_rfl
@[go_sem] theorem zeroT_77 : Program.zeroT Tryz.prog 77 = some [.c (.lit .nilFunc)] := by kernel_rfl
attribute [go_sem] Tryz.underlying77
@[go_sem] theorem ldk_79 : Program.ldk Tryz.prog 79 = some (some 2) := by kernel_rfl
@[go_sem] theorem cellsOfT_79 : cellsOfT Tryz.prog 79 = some 2 := by kernel_rfl
@[go_sem] theorem zeroC_79 : Program.zeroC Tryz.prog 79 = some [.lit (.int .i64 0), .lit (.int .i64 0)] := by kernel_rfl
@[go_sem] theorem zeroT_79 : Program.zeroT Tryz.prog 79 = some [.c (.lit (.int .i64 0)), .c (.lit (.int .i64 0))] := by kernel_rfl
@[go_sem] theorem places_79 : Program.places Tryz.prog 79 = some [(0, 1), (1, 1)] := by kernel_rfl
@[go_sem] theorem fieldOff_79_0 : Program.fieldOff Tryz.prog 79 0 = some 0 := by kernel_rfl
@[go_sem] theorem fieldOff_79_1 : Program.fieldOff Tryz.prog 79 1 = some 1 := by kernel_rfl
@[go_sem] theorem ldk_85 : Program.ldk Tryz.prog 85 = some none := by kernel_rfl
@[go_sem] theorem cellsOfT_85 : cellsOfT Tryz.prog 85 = some 1 := by kernel_rfl
@[go_sem] theorem zeroC_85 : Program.zeroC Tryz.prog 85 = some [.lit .nilFunc] := by kernel_rfl
@[go_sem] theorem zeroT_85 : Program.zeroT Tryz.prog 85 = some [.c (.lit .nilFunc)] := by kernel_rfl
attribute [go_sem] Tryz.underlying85
@[go_sem] theorem ldk_97 : Program.ldk Tryz.prog 97 = some none := by kernel_rfl
@[go_sem] theorem cellsOfT_97 : cellsOfT Tryz.prog 97 = some 1 := by kernel_rfl
@[go_sem] theorem zeroC_97 : Program.zeroC Tryz.prog 97 = some [.lit .nilFunc] := by kernel_rfl
@[go_sem] theorem zeroT_97 : Program.zeroT Tryz.prog 97 = some [.c (.lit .nilFunc)] := by kernel_rfl
attribute [go_sem] Tryz.underlying97
@[go_sem] theorem ldk_115 : Program.ldk Tryz.prog 115 = some none := by kernel_rfl
@[go_sem] theorem cellsOfT_115 : cellsOfT Tryz.prog 115 = some 1 := by kernel_rfl
@[go_sem] theorem zeroC_115 : Program.zeroC Tryz.prog 115 = some [.lit .nilFunc] := by kernel_rfl
@[go_sem] theorem zeroT_115 : Program.zeroT Tryz.prog 115 = some [.c (.lit .nilFunc)] := by kernel_rfl
attribute [go_sem] Tryz.underlying115
@[go_sem] theorem ldk_133 : Program.ldk Tryz.prog 133 = some none := by kernel_rfl
@[go_sem] theorem cellsOfT_133 : cellsOfT Tryz.prog 133 = some 1 := by kernel_rfl
@[go_sem] theorem elemSz_133 : Program.elemSz Tryz.prog 133 = some 1 := by kernel_rfl
@[go_sem] theorem appInfo_133 : appInfo Tryz.prog 133 = some (1, 1) := by kernel_rfl
@[go_sem] theorem zeroC_133 : Program.zeroC Tryz.prog 133 = some [.sl 1 []] := by kernel_rfl
@[go_sem] theorem zeroT_133 : Program.zeroT Tryz.prog 133 = some [.ex 1 []] := by kernel_rfl
@[go_sem] theorem nilT_133 : Program.nilT Tryz.prog 133 = true := by kernel_rfl
attribute [go_sem] Tryz.underlying133
@[go_sem] theorem ldk_135 : Program.ldk Tryz.prog 135 = some none := by kernel_rfl
@[go_sem] theorem cellsOfT_135 : cellsOfT Tryz.prog 135 = some 1 := by kernel_rfl
@[go_sem] theorem zeroC_135 : Program.zeroC Tryz.prog 135 = some [.lit .nilFunc] := by kernel_rfl
@[go_sem] theorem zeroT_135 : Program.zeroT Tryz.prog 135 = some [.c (.lit .nilFunc)] := by kernel_rfl
attribute [go_sem] Tryz.underlying135
@[go_sem] theorem ldk_145 : Program.ldk Tryz.prog 145 = some none := by kernel_rfl
@[go_sem] theorem cellsOfT_145 : cellsOfT Tryz.prog 145 = some 1 := by kernel_rfl
@[go_sem] theorem zeroC_145 : Program.zeroC Tryz.prog 145 = some [.lit .nilFunc] := by kernel_rfl
@[go_sem] theorem zeroT_145 : Program.zeroT Tryz.prog 145 = some [.c (.lit .nilFunc)] := by kernel_rfl
attribute [go_sem] Tryz.underlying145
@[go_sem] theorem eqGuard_62 : Tryz.prog.eqGuardType Tryz.prog.depth 62 = false := by kernel_rfl
@[go_sem] theorem eqT_62 (a0 b0 : ByteArray) (a1 b1 : Int) : eqT Tryz.prog 8 62 (.agg [.c (.lit (.string a0)), .c (.lit (.int .i64 a1))]) (.agg [.c (.lit (.string b0)), .c (.lit (.int .i64 b1))]) = some ((a0 == b0) && ((a1 == b1) && true)) := by kernel_rfl
@[go_sem] theorem eqGuard_65 : Tryz.prog.eqGuardType Tryz.prog.depth 65 = false := by kernel_rfl
@[go_sem] theorem eqT_65 (a0 b0 : ByteArray) (a1 b1 : ByteArray) : eqT Tryz.prog 8 65 (.agg [.c (.lit (.string a0)), .c (.lit (.string a1))]) (.agg [.c (.lit (.string b0)), .c (.lit (.string b1))]) = some ((a0 == b0) && ((a1 == b1) && true)) := by kernel_rfl
@[go_sem] theorem eqGuard_74 : Tryz.prog.eqGuardType Tryz.prog.depth 74 = false := by kernel_rfl
@[go_sem] theorem eqT_74 (a0 b0 : Int) (a1 b1 : Int) : eqT Tryz.prog 8 74 (.agg [.c (.lit (.int .i64 a0)), .c (.lit (.int .i64 a1))]) (.agg [.c (.lit (.int .i64 b0)), .c (.lit (.int .i64 b1))]) = some ((a0 == b0) && ((a1 == b1) && true)) := by kernel_rfl
@[go_sem] theorem eqGuard_79 : Tryz.prog.eqGuardType Tryz.prog.depth 79 = false := by kernel_rfl
@[go_sem] theorem eqT_79 (a0 b0 : Int) (a1 b1 : Int) : eqT Tryz.prog 8 79 (.agg [.c (.lit (.int .i64 a0)), .c (.lit (.int .i64 a1))]) (.agg [.c (.lit (.int .i64 b0)), .c (.lit (.int .i64 b1))]) = some ((a0 == b0) && ((a1 == b1) && true)) := by kernel_rfl
end Go.Proofs.YtdmmhemfnnbddaaGreatDoor

/- The sort of numbers of the library, laid at this program (written by the kit). -/
namespace Go.Proofs.YtdmmhemfnnbddaaGreatDoor
open Go.Shelf
def sortA_ren : Go.Shelf.Ren := ⟨fun | 5 => 122 | 8 => 133 | 7 => 132 | 19 => 148 | 20 => 149 | 10 => 139 | 11 => 140 | 12 => 141 | 13 => 142 | 14 => 143 | 15 => 144 | 16 => 145 | 17 => 146 | 18 => 147 | 30 => 157 | 31 => 158 | 32 => 159 | 33 => 160 | 34 => 161 | 35 => 116 | 40 => 166 | n => n, fun | 23 => 33 | 25 => 3 | 3 => 3 | 32 => 132 | 22 => 33 | 0 => 0 | 44 => 149 | 46 => 151 | 4 => 4 | 36 => 142 | 35 => 141 | 41 => 68 | 5 => 5 | 9 => 9 | 53 => 163 | 57 => 167 | 63 => 173 | 64 => 118 | n => n, fun | n => n⟩
theorem sortA : Go.Proofs.SlLaysM.n5 Tryz.prog sortA_ren := {
  mixed := by kernel_rfl
  f5 := ⟨Tryz.f122.name, by decide, Tryz.func122.trans (congrArg some (by kernel_rfl))⟩
  f7 := ⟨Tryz.f132.name, by decide, Tryz.func132.trans (congrArg some (by kernel_rfl))⟩
  f8 := Tryz.func133.trans (congrArg some (by kernel_rfl))
  f10 := ⟨Tryz.f139.name, by decide, Tryz.func139.trans (congrArg some (by kernel_rfl))⟩
  f11 := ⟨Tryz.f140.name, by decide, Tryz.func140.trans (congrArg some (by kernel_rfl))⟩
  f12 := ⟨Tryz.f141.name, by decide, Tryz.func141.trans (congrArg some (by kernel_rfl))⟩
  f13 := ⟨Tryz.f142.name, by decide, Tryz.func142.trans (congrArg some (by kernel_rfl))⟩
  f14 := ⟨Tryz.f143.name, by decide, Tryz.func143.trans (congrArg some (by kernel_rfl))⟩
  f15 := ⟨Tryz.f144.name, by decide, Tryz.func144.trans (congrArg some (by kernel_rfl))⟩
  f16 := ⟨Tryz.f145.name, by decide, Tryz.func145.trans (congrArg some (by kernel_rfl))⟩
  f17 := ⟨Tryz.f146.name, by decide, Tryz.func146.trans (congrArg some (by kernel_rfl))⟩
  f18 := ⟨Tryz.f147.name, by decide, Tryz.func147.trans (congrArg some (by kernel_rfl))⟩
  f19 := Tryz.func148.trans (congrArg some (by kernel_rfl))
  f20 := Tryz.func149.trans (congrArg some (by kernel_rfl))
  f30 := ⟨Tryz.f157.name, by decide, Tryz.func157.trans (congrArg some (by kernel_rfl))⟩
  f31 := Tryz.func158.trans (congrArg some (by kernel_rfl))
  f32 := Tryz.func159.trans (congrArg some (by kernel_rfl))
  f33 := ⟨Tryz.f160.name, by decide, Tryz.func160.trans (congrArg some (by kernel_rfl))⟩
  f34 := ⟨Tryz.f161.name, by decide, Tryz.func161.trans (congrArg some (by kernel_rfl))⟩
  f35 := ⟨Tryz.f116.name, by decide, Tryz.func116.trans (congrArg some (by kernel_rfl))⟩
  f40 := ⟨Tryz.f166.name, by decide, Tryz.func166.trans (congrArg some (by kernel_rfl))⟩
  t0 := Tryz.underlying0
  a0 := Tryz.isAgg0
  z0 := Tryz.sizeOf0
  v0 := Tryz.zeroValue0
  t3 := Tryz.underlying3
  a3 := Tryz.isAgg3
  z3 := Tryz.sizeOf3
  v3 := Tryz.zeroValue3
  t4 := Tryz.underlying4
  a4 := Tryz.isAgg4
  z4 := Tryz.sizeOf4
  v4 := Tryz.zeroValue4
  t5 := Tryz.underlying5
  a5 := Tryz.isAgg5
  z5 := Tryz.sizeOf5
  v5 := Tryz.zeroValue5
  t9 := Tryz.underlying9
  a9 := Tryz.isAgg9
  z9 := Tryz.sizeOf9
  v9 := Tryz.zeroValue9
  t22 := Tryz.underlying33
  a22 := Tryz.isAgg33
  z22 := Tryz.sizeOf33
  v22 := Tryz.zeroValue33
  t23 := Tryz.underlying33
  a23 := Tryz.isAgg33
  z23 := Tryz.sizeOf33
  v23 := Tryz.zeroValue33
  t25 := Tryz.underlying3
  a25 := Tryz.isAgg3
  z25 := Tryz.sizeOf3
  v25 := Tryz.zeroValue3
  t32 := Tryz.underlying132
  a32 := Tryz.isAgg132
  z32 := Tryz.sizeOf132
  v32 := Tryz.zeroValue132
  t35 := Tryz.underlying141
  a35 := Tryz.isAgg141
  z35 := Tryz.sizeOf141
  v35 := Tryz.zeroValue141
  t36 := Tryz.underlying142
  a36 := Tryz.isAgg142
  z36 := Tryz.sizeOf142
  v36 := Tryz.zeroValue142
  t41 := Tryz.underlying68
  a41 := Tryz.isAgg68
  z41 := Tryz.sizeOf68
  v41 := Tryz.zeroValue68
  t44 := Tryz.underlying149
  a44 := Tryz.isAgg149
  z44 := Tryz.sizeOf149
  v44 := Tryz.zeroValue149
  t46 := Tryz.underlying151
  a46 := Tryz.isAgg151
  z46 := Tryz.sizeOf151
  v46 := Tryz.zeroValue151
  t53 := Tryz.underlying163
  a53 := Tryz.isAgg163
  z53 := Tryz.sizeOf163
  v53 := Tryz.zeroValue163
  t57 := Tryz.underlying167
  a57 := Tryz.isAgg167
  z57 := Tryz.sizeOf167
  v57 := Tryz.zeroValue167
  t63 := Tryz.underlying173
  a63 := Tryz.isAgg173
  z63 := Tryz.sizeOf173
  v63 := Tryz.zeroValue173
  t64 := Tryz.underlying118
  a64 := Tryz.isAgg118
  z64 := Tryz.sizeOf118
  v64 := Tryz.zeroValue118 }
end Go.Proofs.YtdmmhemfnnbddaaGreatDoor

/- What is taken from the shelf, laid at this program (written by the kit). -/
namespace Go.Proofs.YtdmmhemfnnbddaaGreatDoor
open Go.Shelf
def Tryz.laysV_ren : Go.Shelf.Ren := ⟨fun | 196 => 137 | 259 => 155 | n => n, fun | 9 => 9 | 4 => 4 | 3 => 3 | 5 => 5 | 12 => 12 | 119 => 159 | 0 => 0 | 46 => 132 | 139 => 162 | 138 => 161 | 53 => 151 | n => n, fun | 3 => 0 | 4 => 1 | n => n⟩
theorem Tryz.laysV : Go.Proofs.Lays.n196 Tryz.prog Tryz.laysV_ren := {
  mixed := by kernel_rfl
  f196 := Tryz.func137.trans (congrArg some (by kernel_rfl))
  f259 := Tryz.func155.trans (congrArg some (by kernel_rfl))
  t0 := Tryz.underlying0
  a0 := Tryz.isAgg0
  z0 := Tryz.sizeOf0
  v0 := Tryz.zeroValue0
  t3 := Tryz.underlying3
  a3 := Tryz.isAgg3
  z3 := Tryz.sizeOf3
  v3 := Tryz.zeroValue3
  t4 := Tryz.underlying4
  a4 := Tryz.isAgg4
  z4 := Tryz.sizeOf4
  v4 := Tryz.zeroValue4
  t5 := Tryz.underlying5
  a5 := Tryz.isAgg5
  z5 := Tryz.sizeOf5
  v5 := Tryz.zeroValue5
  t9 := Tryz.underlying9
  a9 := Tryz.isAgg9
  z9 := Tryz.sizeOf9
  v9 := Tryz.zeroValue9
  t12 := Tryz.underlying12
  a12 := Tryz.isAgg12
  z12 := Tryz.sizeOf12
  v12 := Tryz.zeroValue12
  t46 := Tryz.underlying132
  a46 := Tryz.isAgg132
  z46 := Tryz.sizeOf132
  v46 := Tryz.zeroValue132
  t53 := Tryz.underlying151
  a53 := Tryz.isAgg151
  z53 := Tryz.sizeOf151
  v53 := Tryz.zeroValue151
  t119 := Tryz.underlying159
  a119 := Tryz.isAgg159
  z119 := Tryz.sizeOf159
  t138 := Tryz.underlying161
  a138 := Tryz.isAgg161
  z138 := Tryz.sizeOf161
  v138 := Tryz.zeroValue161
  t139 := Tryz.underlying162
  a139 := Tryz.isAgg162
  z139 := Tryz.sizeOf162
  v139 := Tryz.zeroValue162
  g3 := by kernel_rfl
  g4 := by kernel_rfl }
def Tryz.laysC_ren : Go.Shelf.Ren := ⟨fun | 150 => 129 | 153 => 136 | 152 => 151 | 226 => 152 | 227 => 153 | 228 => 154 | 137 => 162 | 119 => 163 | 224 => 164 | 225 => 165 | 217 => 167 | 266 => 168 | n => n, fun | 9 => 9 | 4 => 4 | 3 => 3 | 5 => 5 | 21 => 21 | 117 => 156 | 116 => 155 | 0 => 0 | 46 => 132 | 124 => 172 | n => n, fun | n => n⟩
theorem Tryz.laysC : Go.Proofs.Lays.n150 Tryz.prog Tryz.laysC_ren := {
  mixed := by kernel_rfl
  f119 := Tryz.func163.trans (congrArg some (by kernel_rfl))
  f137 := Tryz.func162.trans (congrArg some (by kernel_rfl))
  f150 := Tryz.func129.trans (congrArg some (by kernel_rfl))
  f152 := Tryz.func151.trans (congrArg some (by kernel_rfl))
  f153 := Tryz.func136.trans (congrArg some (by kernel_rfl))
  f217 := Tryz.func167.trans (congrArg some (by kernel_rfl))
  f224 := Tryz.func164.trans (congrArg some (by kernel_rfl))
  f225 := Tryz.func165.trans (congrArg some (by kernel_rfl))
  f226 := Tryz.func152.trans (congrArg some (by kernel_rfl))
  f227 := Tryz.func153.trans (congrArg some (by kernel_rfl))
  f228 := Tryz.func154.trans (congrArg some (by kernel_rfl))
  f266 := Tryz.func168.trans (congrArg some (by kernel_rfl))
  t0 := Tryz.underlying0
  a0 := Tryz.isAgg0
  z0 := Tryz.sizeOf0
  v0 := Tryz.zeroValue0
  t3 := Tryz.underlying3
  a3 := Tryz.isAgg3
  z3 := Tryz.sizeOf3
  v3 := Tryz.zeroValue3
  t4 := Tryz.underlying4
  a4 := Tryz.isAgg4
  z4 := Tryz.sizeOf4
  v4 := Tryz.zeroValue4
  t5 := Tryz.underlying5
  a5 := Tryz.isAgg5
  z5 := Tryz.sizeOf5
  v5 := Tryz.zeroValue5
  t9 := Tryz.underlying9
  a9 := Tryz.isAgg9
  z9 := Tryz.sizeOf9
  v9 := Tryz.zeroValue9
  t21 := Tryz.underlying21
  a21 := Tryz.isAgg21
  z21 := Tryz.sizeOf21
  v21 := Tryz.zeroValue21
  t46 := Tryz.underlying132
  a46 := Tryz.isAgg132
  z46 := Tryz.sizeOf132
  v46 := Tryz.zeroValue132
  t116 := Tryz.underlying155
  a116 := Tryz.isAgg155
  z116 := Tryz.sizeOf155
  t117 := Tryz.underlying156
  a117 := Tryz.isAgg156
  z117 := Tryz.sizeOf156
  v117 := Tryz.zeroValue156
  t124 := Tryz.underlying172
  a124 := Tryz.isAgg172
  z124 := Tryz.sizeOf172
  v124 := Tryz.zeroValue172 }
end Go.Proofs.YtdmmhemfnnbddaaGreatDoor

/- The logic of data: a contract that the kit proves at the machine, as one said by data. -/
namespace Go.Dl
open Go.RowKit
noncomputable section

theorem below_kok {w w' : World} {K : KSet} (hk : KOk w K) (hb : Below w.heap.size w w') : KOk w' K :=
  hk.move fun b o h => hb.cell (p := ⟨b, o, none⟩) (lt_of_cell (hk b o h))

theorem dcalls_below {P : Program} {f : FuncId} {ds : List D} {u : Value} (hp : Program.plainF P f = true) (hu : u.oneCell' = true)
    (h : ∀ (w : World) (K : KSet) (vs : Array Value), KOk w K → vs.size = ds.length → (∀ (j : Nat) d v, ds[j]? = some d → vs[j]? = some v → VD w (E0 K) d v) → Calls P f vs w fun e w' => e = .returned u ∧ Below w.heap.size w w') :
    DCalls P f ds (.one (.c (.lit u))) := by
  refine ⟨hp, fun w K vs hk hl hv => (h w K vs hk hl hv).mono ?_⟩
  rintro e w' ⟨rfl, hb⟩
  have hns : ∀ n b o, ¬ spare ((E0 K).val n) b o := fun n b o ⟨a, len, cap, h1, _⟩ => by simp [E0] at h1
  exact ⟨u, E0 K, rfl, ⟨hb, fun _ _ h => h, fun _ _ _ h => h, below_kok hk hb, fun n b o hs => absurd hs (hns n b o), fun n m b o hs => absurd hs (hns n b o)⟩, .one _ _ (.c _ _ (.lit _ hu))⟩

theorem calls_lit {P : Program} {f : FuncId} {ds : List D} {u : Value} (hD : DCalls P f ds (.one (.c (.lit u)))) {w : World} {K : KSet} {vs : Array Value} (hk : KOk w K) (hl : vs.size = ds.length) (hv : ∀ (j : Nat) d v, ds[j]? = some d → vs[j]? = some v → VD w (E0 K) d v) :
    Calls P f vs w fun e w' => e = .returned u ∧ Below w.heap.size w w' :=
  (hD.2 w K vs hk hl hv).mono fun e w' h => by
    obtain ⟨v, E', rfl, hext, hv⟩ := h
    rw [hv.lit]
    exact ⟨rfl, hext.1⟩

/-! ### A scope that is left by no jump -/

theorem stepR_scope' {P : Program} {b : Frame} {a : Act} {k : List Item} {cs : List Frame} {w : World} {c : Code} : step P (lone (b.atR a (.code (.scope c) :: k)) cs w) = .next (lone (b.atR a (.code c :: .inScope c :: k)) cs w) :=
  step_lone_go (by simp [stepG, stepG.exec, Frame.atR])
theorem stepR_inScope' {P : Program} {b : Frame} {a : Act} {k : List Item} {cs : List Frame} {w : World} {c : Code} : step P (lone (b.atR a (.inScope c :: k)) cs w) = .next (lone (b.atR a k) cs w) :=
  step_lone_go (by simp [stepG, stepG.exec, Frame.atR])

def noGotoD (Q : Exit → DS → Prop) : Exit → DS → Prop
  | .goto _, _ => False
  | e, s => Q e s

theorem dw_scope {P : Program} {s : DS} {Q : Exit → DS → Prop} {c : Code} (h : DW P c s (noGotoD Q)) : DW P (.scope c) s Q := by
  intro X a w hr b k cs hro hb hroom
  obtain ⟨e, a₁, w₁, ⟨s₁, hq, hr₁⟩, harr⟩ := h X a w hr b (.inScope c :: k) cs hro hb hroom
  cases e with
  | normal => exact ⟨.normal, a₁, w₁, ⟨s₁, hq, hr₁⟩, .head (fenced_calm hb hroom rfl) stepR_scope' (StepsIn.trans harr (.one (fenced_calm hb hroom rfl) stepR_inScope'))⟩
  | goto l => exact hq.elim
  | exit id =>
    have hx : exitTo id (.inScope c :: k) = exitTo id k := by simp [exitTo]
    exact ⟨_, a₁, w₁, ⟨s₁, hq, hr₁⟩, fun k1 hk => .head (fenced_calm hb hroom rfl) stepR_scope' (harr.1 k1 (by rw [hx]; exact hk)), fun h1 hk => let ⟨k₁, h2, h3⟩ := harr.2 h1 (by rw [hx]; exact hk); ⟨k₁, h2, .head (fenced_calm hb hroom rfl) stepR_scope' h3⟩⟩
  | ret => exact ⟨_, a₁, w₁, ⟨s₁, hq, hr₁⟩, .of_steps (.one (fenced_calm hb hroom rfl) stepR_scope') harr⟩
  | panic ch => exact ⟨_, a₁, w₁, ⟨s₁, hq, hr₁⟩, .of_steps (.one (fenced_calm hb hroom rfl) stepR_scope') harr⟩
  | outgrown => exact ⟨_, a₁, w₁, ⟨s₁, hq, hr₁⟩, .of_steps (.one (fenced_calm hb hroom rfl) stepR_scope') harr⟩
theorem noGotoD_normal (Q : Exit → DS → Prop) (s : DS) : noGotoD Q .normal s = Q .normal s := rfl
theorem noGotoD_ret (Q : Exit → DS → Prop) (s : DS) : noGotoD Q .ret s = Q .ret s := rfl
theorem noGotoD_exit (Q : Exit → DS → Prop) (id : Nat) (s : DS) : noGotoD Q (.exit id) s = Q (.exit id) s := rfl
attribute [go_sem ↓] noGotoD_normal noGotoD_ret noGotoD_exit

theorem sub_ownX {s : DS} (t n sz : Nat) {xs : List (List C)} (h : s.sl t = .one (.ex sz xs)) : s.Sub ((s.close [n]).put (some t) (.one (.own n sz xs))) := by
  rintro X a w ⟨E, hE⟩
  have hv := hE.sl t
  rw [h] at hv
  cases hv with
  | one _ _ hv => cases hv with
    | ex _ _ _ hvc hx =>
      have hns : ∀ b o, ¬ spare ((a.tmps.getD t undef, sz) : Value × Nat) b o := fun b o ⟨_, len, cap, h1, _, _, h2, h3⟩ => by
        obtain ⟨A, m, hA⟩ := hx
        simp only at h1
        rw [hA] at h1
        injection h1 with _ h4 h5
        simp only at h2 h3
        rw [← h4] at h2; rw [← h5] at h3
        omega
      have h1 := hE.setVal n (a.tmps.getD t undef, sz) (fun b o hs => absurd hs (hns b o))
      refine ⟨_, ⟨h1.wi, fun u => ?_, h1.size, h1.defers, h1.small, h1.pl⟩⟩
      simp only [DS.put]
      by_cases hu : u = t
      · subst hu
        rw [if_pos rfl]
        exact .one _ _ (.own n sz xs _ hvc (by simp [Env.setVal]) hx.tame)
      · rw [if_neg hu]; exact h1.sl u
theorem dw_ownX {P : Program} {s : DS} {Q : Exit → DS → Prop} (t n sz : Nat) {xs : List (List C)} {c : Code} (h : s.sl t = .one (.ex sz xs)) (hc : DW P c ((s.close [n]).put (some t) (.one (.own n sz xs))) Q) : DW P c s Q := dw_weaken (sub_ownX t n sz h) hc
end
end Go.Dl

/- The logic of data: a region whose order is drawn, where up to three operations may come up. -/
namespace Go.Dl
open Go.RowKit
noncomputable section

inductive PQ where
  | leaf
  | run (l : List Nat) (t : PQ)
  | two (i : Nat) (t : PQ) (j : Nat) (u : PQ)
  | thr (i : Nat) (t : PQ) (j : Nat) (u : PQ) (k : Nat) (v : PQ)

def PQ.len : PQ → Nat
  | .leaf => 0
  | .run l t => l.length + t.len
  | .two _ t _ _ => 1 + t.len
  | .thr _ t _ _ _ _ => 1 + t.len

def PQ.ok (ops : List Oper) : PQ → Array Bool → Bool
  | .leaf, listed => (Region.ready .any ops.toArray listed).isEmpty
  | .run l t, listed => runOk ops l listed && t.ok ops (afterA l listed)
  | .two i t j u, listed => (Region.ready .any ops.toArray listed == [i, j]) && (ops[i]?).isSome && (ops[j]?).isSome && (t.len == u.len) && t.ok ops (listed.setIfInBounds i true) && u.ok ops (listed.setIfInBounds j true)
  | .thr i t j u k v, listed => (Region.ready .any ops.toArray listed == [i, j, k]) && (ops[i]?).isSome && (ops[j]?).isSome && (ops[k]?).isSome && (t.len == u.len) && (t.len == v.len) && t.ok ops (listed.setIfInBounds i true) && u.ok ops (listed.setIfInBounds j true) && v.ok ops (listed.setIfInBounds k true)

def PQ.wk (P : Program) (ops : List Oper) (hd : List Nat) (ds : List (Option Nat)) : PQ → DS → (DS → Prop) → Prop
  | .leaf, s, K => K s
  | .run l t, s, K => Go.Dl.wk P ds (pickH ops hd l) s fun s' => t.wk P ops hd ds s' K
  | .two i t j u, s, K => (Go.Dl.wk P ds (pickH ops hd [i]) s fun s' => t.wk P ops hd ds s' K) ∧ Go.Dl.wk P ds (pickH ops hd [j]) s fun s' => u.wk P ops hd ds s' K
  | .thr i t j u k v, s, K => (Go.Dl.wk P ds (pickH ops hd [i]) s fun s' => t.wk P ops hd ds s' K) ∧ (Go.Dl.wk P ds (pickH ops hd [j]) s fun s' => u.wk P ops hd ds s' K) ∧ Go.Dl.wk P ds (pickH ops hd [k]) s fun s' => v.wk P ops hd ds s' K

section
variable {P : Program}

theorem pqwk_leaf (ops : List Oper) (hd : List Nat) (ds : List (Option Nat)) (s : DS) (K : DS → Prop) : PQ.leaf.wk P ops hd ds s K = K s := rfl
theorem pqwk_run (ops : List Oper) (hd : List Nat) (ds : List (Option Nat)) (l : List Nat) (t : PQ) (s : DS) (K : DS → Prop) : (PQ.run l t).wk P ops hd ds s K = Go.Dl.wk P ds (pickH ops hd l) s fun s' => t.wk P ops hd ds s' K := rfl
theorem pqwk_two (ops : List Oper) (hd : List Nat) (ds : List (Option Nat)) (i j : Nat) (t u : PQ) (s : DS) (K : DS → Prop) : (PQ.two i t j u).wk P ops hd ds s K = ((Go.Dl.wk P ds (pickH ops hd [i]) s fun s' => t.wk P ops hd ds s' K) ∧ Go.Dl.wk P ds (pickH ops hd [j]) s fun s' => u.wk P ops hd ds s' K) := rfl
theorem pqwk_thr (ops : List Oper) (hd : List Nat) (ds : List (Option Nat)) (i j k : Nat) (t u v : PQ) (s : DS) (K : DS → Prop) : (PQ.thr i t j u k v).wk P ops hd ds s K = ((Go.Dl.wk P ds (pickH ops hd [i]) s fun s' => t.wk P ops hd ds s' K) ∧ (Go.Dl.wk P ds (pickH ops hd [j]) s fun s' => u.wk P ops hd ds s' K) ∧ Go.Dl.wk P ds (pickH ops hd [k]) s fun s' => v.wk P ops hd ds s' K) := rfl
attribute [go_sem] pqwk_leaf pqwk_run pqwk_two pqwk_thr
end
end
end Go.Dl

/- The logic of data: a region whose order is drawn, with operations that look at slots alone anywhere among the ways; lists without memory. -/
namespace Go.Dl
open Go.RowKit
noncomputable section

inductive PR where
  | leaf
  | run (l : List Nat) (t : PR)
  | bl (i : Nat) (t : PR)
  | ex (i : Nat) (t : PR)
  | dia (i j : Nat) (t : PR)
  | here (a : Array Bool) (t : PR)
  | two (i : Nat) (t : PR) (j : Nat) (u : PR)
  | thr (i : Nat) (t : PR) (j : Nat) (u : PR) (k : Nat) (v : PR)

def PR.len : PR → Nat
  | .leaf => 0
  | .run l t => l.length + t.len
  | .bl _ t => 1 + t.len
  | .ex _ t => 1 + t.len
  | .dia _ _ t => 2 + t.len
  | .here _ t => t.len
  | .two _ t _ _ => 1 + t.len
  | .thr _ t _ _ _ _ => 1 + t.len

def isExtract (o : Option Oper) : Bool := match o with
  | some o => match o.op with
    | .extract _ _ => true
    | _ => false
  | none => false

def apartAt (ops : List Oper) (i j : Nat) : Bool := match ops[i]?, ops[j]? with
  | some oi, some oj => oi.apart ops.toArray oj
  | _, _ => false

def PR.ok (ops : List Oper) : PR → Array Bool → Bool
  | .leaf, listed => (Region.ready .any ops.toArray listed).isEmpty
  | .run l t, listed => runOk ops l listed && t.ok ops (afterA l listed)
  | .bl i t, listed => Region.free .any ops.toArray listed i && (Region.ready .any ops.toArray listed).contains i && (ops[i]?).isSome && t.ok ops (listed.setIfInBounds i true)
  | .ex i t, listed => Region.free .any ops.toArray listed i && (Region.ready .any ops.toArray listed).contains i && isExtract ops[i]? && t.ok ops (listed.setIfInBounds i true)
  | .dia i j t, listed => (Region.ready .any ops.toArray listed == [i, j]) && (Region.ready .any ops.toArray (listed.setIfInBounds i true) == [j]) && (Region.ready .any ops.toArray (listed.setIfInBounds j true) == [i]) && apartAt ops i j && (i != j) && t.ok ops ((listed.setIfInBounds i true).setIfInBounds j true)
  | .here a t, listed => (listed == a) && t.ok ops a
  | .two i t j u, listed => (Region.ready .any ops.toArray listed == [i, j]) && (ops[i]?).isSome && (ops[j]?).isSome && (t.len == u.len) && t.ok ops (listed.setIfInBounds i true) && u.ok ops (listed.setIfInBounds j true)
  | .thr i t j u k v, listed => (Region.ready .any ops.toArray listed == [i, j, k]) && (ops[i]?).isSome && (ops[j]?).isSome && (ops[k]?).isSome && (t.len == u.len) && (t.len == v.len) && t.ok ops (listed.setIfInBounds i true) && u.ok ops (listed.setIfInBounds j true) && v.ok ops (listed.setIfInBounds k true)

def PR.wk (P : Program) (ops : List Oper) (hd : List Nat) (ds : List (Option Nat)) : PR → DS → (DS → Prop) → Prop
  | .leaf, s, K => K s
  | .run l t, s, K => Go.Dl.wk P ds (pickH ops hd l) s fun s' => t.wk P ops hd ds s' K
  | .bl i t, s, K => Go.Dl.wk P ds (pickM ops .blind [i]) s fun s' => t.wk P ops hd ds s' K
  | .ex i t, s, K => Go.Dl.wk P ds (pickM ops .light [i]) s fun s' => t.wk P ops hd ds s' K
  | .dia i j t, s, K => Go.Dl.wk P ds (pickM ops .light [i, j]) s fun s' => t.wk P ops hd ds s' K
  | .here _ t, s, K => t.wk P ops hd ds s K
  | .two i t j u, s, K => (Go.Dl.wk P ds (pickH ops hd [i]) s fun s' => t.wk P ops hd ds s' K) ∧ Go.Dl.wk P ds (pickH ops hd [j]) s fun s' => u.wk P ops hd ds s' K
  | .thr i t j u k v, s, K => (Go.Dl.wk P ds (pickH ops hd [i]) s fun s' => t.wk P ops hd ds s' K) ∧ (Go.Dl.wk P ds (pickH ops hd [j]) s fun s' => u.wk P ops hd ds s' K) ∧ Go.Dl.wk P ds (pickH ops hd [k]) s fun s' => v.wk P ops hd ds s' K

section
variable {P : Program}

theorem blind_extract {s : DS} {o : Oper} {x : Operand} {i : Nat} {ds : List D} {d : D} (ho : o.op = .extract x i) (hx : s.ev x = .tup ds) (hi : ds[i]? = some d) : Blind P s o d := fun X E a w hE => by
  have hv := hE.ev x
  rw [hx] at hv
  generalize he : a.eval x = v at hv
  cases hv with
  | tup _ vs hl hr =>
    have hlt : i < vs.size := by rw [hl]; exact (List.getElem?_eq_some_iff.1 hi).1
    exact ⟨vs[i], fun w' => by simp [execOp, ho, he, Instr.extract, hlt], hr i d _ hi (Array.getElem?_eq_getElem hlt)⟩
theorem extract_blind {s : DS} {o : Oper} {d : D} (h : isExtract (some o) = true) (hq : QD P s.ev s.bx o.op (· = d)) : Blind P s o d := by
  obtain ⟨dst, op, ty, pos, aft, g⟩ := o
  cases op with
  | extract x i =>
    simp only [QD] at hq
    split at hq
    · rename_i ds hx
      split at hq
      · rename_i d' hd
        subst hq
        exact blind_extract rfl hx hd
      · exact hq.elim
    · exact hq.elim
  | _ => simp [isExtract] at h

theorem wk_AL {ops : List Oper} {o : Oper} {l : List (Mode × Oper)} {s : DS} {K : DS → Prop} (h : wk P (ops.map (·.dst)) ((.light, o) :: l) s K) : AL P ops o s fun s' => wk P (ops.map (·.dst)) l s' K := by
  have h := wk_cons h
  unfold GIs at h
  unfold AL
  split at h
  · rename_i hw
    simp only [hw]
    cases h with
    | light d hq hk => exact ⟨d, hq, hk⟩
  · rename_i hw
    simp only [hw]
    exact h
  · exact h.elim

theorem pr_ok {ops : List Oper} {hd : List Nat} {N : Nat} (hb : dstB ops N = true) (hs : Region.noSelect ops.toArray = true) {K : DS → Prop} : ∀ (t : PR) (listed : Array Bool) (s : DS), t.ok ops listed = true → t.wk P ops hd (ops.map (·.dst)) s K → AnyOk P ops N K t.len listed s
  | .leaf, listed, s, hc, h => any_done (by simpa [PR.ok] using hc) h
  | .run l t, listed, s, hc, h => by
    simp only [PR.ok, Bool.and_eq_true] at hc
    exact run_ok hb l listed s hc.1 h (fun s' h' => pr_ok hb hs t _ s' hc.2 h') (run_some l listed hc.1)
  | .bl i t, listed, s, hc, h => by
    simp only [PR.ok, Bool.and_eq_true] at hc
    obtain ⟨⟨⟨h1, h2⟩, h3⟩, h4⟩ := hc
    have hl : (PR.bl i t).len = t.len + 1 := by simp [PR.len]; omega
    rw [hl]
    cases ho : ops[i]? with
    | none => rw [ho] at h3; cases h3
    | some o =>
      simp only [PR.wk, pickM, ho] at h
      have h7 := wk_cons h
      unfold GIs at h7
      split at h7
      · rename_i hw
        cases h7 with
        | blind d hbl hk => exact any_blind hb ho hs h1 h2 hw hbl (pr_ok hb hs t _ _ h4 hk)
      · rename_i hw
        exact any_not hb ho hs h1 h2 hw (pr_ok hb hs t _ _ h4 h7)
      · exact h7.elim
  | .ex i t, listed, s, hc, h => by
    simp only [PR.ok, Bool.and_eq_true] at hc
    obtain ⟨⟨⟨h1, h2⟩, h3⟩, h4⟩ := hc
    have hl : (PR.ex i t).len = t.len + 1 := by simp [PR.len]; omega
    rw [hl]
    cases ho : ops[i]? with
    | none => rw [ho] at h3; cases h3
    | some o =>
      rw [ho] at h3
      simp only [PR.wk, pickM, ho] at h
      have h7 := wk_cons h
      unfold GIs at h7
      split at h7
      · rename_i hw
        cases h7 with
        | light d hq hk => exact any_blind hb ho hs h1 h2 hw (extract_blind h3 hq) (pr_ok hb hs t _ _ h4 hk)
      · rename_i hw
        exact any_not hb ho hs h1 h2 hw (pr_ok hb hs t _ _ h4 h7)
      · exact h7.elim
  | .here a t, listed, s, hc, h => by
    simp only [PR.ok, Bool.and_eq_true, beq_iff_eq] at hc
    obtain ⟨rfl, h2⟩ := hc
    exact pr_ok hb hs t _ s h2 h
  | .dia i j t, listed, s, hc, h => by
    simp only [PR.ok, Bool.and_eq_true, beq_iff_eq, bne_iff_ne] at hc
    obtain ⟨⟨⟨⟨⟨h1, h2⟩, h3⟩, h4⟩, hne⟩, h5⟩ := hc
    have hl : (PR.dia i j t).len = (t.len + 1) + 1 := by simp [PR.len]; omega
    rw [hl]
    unfold apartAt at h4
    split at h4
    · rename_i oi oj hi hj
      simp only [PR.wk, pickM, hi, hj] at h
      have g1 : AL P ops oi s fun s1 => AL P ops oj s1 fun s2 => AnyOk P ops N K t.len ((listed.setIfInBounds i true).setIfInBounds j true) s2 := AL_mono (fun s1 q1 => AL_mono (fun s2 q2 => pr_ok hb hs t _ s2 h5 q2) (wk_AL q1)) (wk_AL h)
      have g2 := diamond h4 g1
      refine any_each hb h1 (by simp) fun k hk => ?_
      have hk' : k = i ∨ k = j := by simpa using hk
      rcases hk' with rfl | rfl
      · exact ⟨oi, hi, AL_guard (AL_mono (fun s1 q1 => any_each hb h2 (by simp) fun q hq => by
          obtain rfl : q = j := by simpa using hq
          exact ⟨oj, hj, AL_guard q1⟩) g1)⟩
      · refine ⟨oj, hj, AL_guard (AL_mono (fun s1 q1 => any_each hb h3 (by simp) fun q hq => ?_) g2)⟩
        obtain rfl : q = i := by simpa using hq
        rw [Array.setIfInBounds_comm _ _ hne] at q1
        exact ⟨oi, hi, AL_guard q1⟩
    · cases h4
  | .two i t j u, listed, s, hc, h => by
    simp only [PR.ok, Bool.and_eq_true, beq_iff_eq] at hc
    obtain ⟨⟨⟨⟨⟨h1, h2⟩, h3⟩, h4⟩, h5⟩, h6⟩ := hc
    have hl : (PR.two i t j u).len = t.len + 1 := by simp [PR.len]; omega
    rw [hl]
    refine any_each hb h1 (by simp) fun k hk => ?_
    have hk' : k = i ∨ k = j := by simpa using hk
    rcases hk' with rfl | rfl
    · cases ho : ops[k]? with
      | none => rw [ho] at h2; cases h2
      | some o =>
        have h7 := h.1
        simp only [pickH, ho] at h7
        exact ⟨o, rfl, guardS_mono (fun s' h' => pr_ok hb hs t _ s' h5 h') (wk_guardS h7)⟩
    · cases ho : ops[k]? with
      | none => rw [ho] at h3; cases h3
      | some o =>
        have h7 := h.2
        simp only [pickH, ho] at h7
        refine ⟨o, rfl, guardS_mono (fun s' h' => ?_) (wk_guardS h7)⟩
        rw [h4]
        exact pr_ok hb hs u _ s' h6 h'
  | .thr i t j u k v, listed, s, hc, h => by
    simp only [PR.ok, Bool.and_eq_true, beq_iff_eq] at hc
    obtain ⟨⟨⟨⟨⟨⟨⟨⟨h1, h2⟩, h3⟩, h3'⟩, h4⟩, h4'⟩, h5⟩, h6⟩, h6'⟩ := hc
    have hl : (PR.thr i t j u k v).len = t.len + 1 := by simp [PR.len]; omega
    rw [hl]
    refine any_each hb h1 (by simp) fun q hq => ?_
    have hq' : q = i ∨ q = j ∨ q = k := by simpa using hq
    rcases hq' with rfl | rfl | rfl
    · cases ho : ops[q]? with
      | none => rw [ho] at h2; cases h2
      | some o =>
        have h7 := h.1
        simp only [pickH, ho] at h7
        exact ⟨o, rfl, guardS_mono (fun s' h' => pr_ok hb hs t _ s' h5 h') (wk_guardS h7)⟩
    · cases ho : ops[q]? with
      | none => rw [ho] at h3; cases h3
      | some o =>
        have h7 := h.2.1
        simp only [pickH, ho] at h7
        refine ⟨o, rfl, guardS_mono (fun s' h' => ?_) (wk_guardS h7)⟩
        rw [h4]
        exact pr_ok hb hs u _ s' h6 h'
    · cases ho : ops[q]? with
      | none => rw [ho] at h3'; cases h3'
      | some o =>
        have h7 := h.2.2
        simp only [pickH, ho] at h7
        refine ⟨o, rfl, guardS_mono (fun s' h' => ?_) (wk_guardS h7)⟩
        rw [h4']
        exact pr_ok hb hs v _ s' h6' h'

def checkPR (ops : List Oper) (N : Nat) (t : PR) : Bool :=
  dstB ops N && Region.noSelect ops.toArray && t.ok ops (Array.replicate ops.length false) && (t.len == ops.length)

theorem dw_treeR {id : Nat} {l : List Oper} {s : DS} {Q : Exit → DS → Prop} {N : Nat} (hd : List Nat) (t : PR) (hm : P.follows .mixedOrders = true) (hn : s.n = N) (hc : checkPR l N t = true)
    (h : t.wk P l hd (l.map (·.dst)) s (Q .normal)) : DW P (.region id l.toArray true) s Q := by
  simp only [checkPR, Bool.and_eq_true, beq_iff_eq] at hc
  obtain ⟨⟨⟨h1, h2⟩, h3⟩, h4⟩ := hc
  subst hn
  refine dw_any h1 hm ?_
  have := pr_ok h1 h2 t _ s h3 h
  rwa [h4] at this
theorem prwk_leaf (ops : List Oper) (hd : List Nat) (ds : List (Option Nat)) (s : DS) (K : DS → Prop) : PR.leaf.wk P ops hd ds s K = K s := rfl
theorem prwk_run (ops : List Oper) (hd : List Nat) (ds : List (Option Nat)) (l : List Nat) (t : PR) (s : DS) (K : DS → Prop) : (PR.run l t).wk P ops hd ds s K = Go.Dl.wk P ds (pickH ops hd l) s fun s' => t.wk P ops hd ds s' K := rfl
theorem prwk_bl (ops : List Oper) (hd : List Nat) (ds : List (Option Nat)) (i : Nat) (t : PR) (s : DS) (K : DS → Prop) : (PR.bl i t).wk P ops hd ds s K = Go.Dl.wk P ds (pickM ops .blind [i]) s fun s' => t.wk P ops hd ds s' K := rfl
theorem prwk_ex (ops : List Oper) (hd : List Nat) (ds : List (Option Nat)) (i : Nat) (t : PR) (s : DS) (K : DS → Prop) : (PR.ex i t).wk P ops hd ds s K = Go.Dl.wk P ds (pickM ops .light [i]) s fun s' => t.wk P ops hd ds s' K := rfl
theorem prwk_dia (ops : List Oper) (hd : List Nat) (ds : List (Option Nat)) (i j : Nat) (t : PR) (s : DS) (K : DS → Prop) : (PR.dia i j t).wk P ops hd ds s K = Go.Dl.wk P ds (pickM ops .light [i, j]) s fun s' => t.wk P ops hd ds s' K := rfl
theorem prwk_here (ops : List Oper) (hd : List Nat) (ds : List (Option Nat)) (a : Array Bool) (t : PR) (s : DS) (K : DS → Prop) : (PR.here a t).wk P ops hd ds s K = t.wk P ops hd ds s K := rfl
theorem prwk_two (ops : List Oper) (hd : List Nat) (ds : List (Option Nat)) (i j : Nat) (t u : PR) (s : DS) (K : DS → Prop) : (PR.two i t j u).wk P ops hd ds s K = ((Go.Dl.wk P ds (pickH ops hd [i]) s fun s' => t.wk P ops hd ds s' K) ∧ Go.Dl.wk P ds (pickH ops hd [j]) s fun s' => u.wk P ops hd ds s' K) := rfl
theorem prwk_thr (ops : List Oper) (hd : List Nat) (ds : List (Option Nat)) (i j k : Nat) (t u v : PR) (s : DS) (K : DS → Prop) : (PR.thr i t j u k v).wk P ops hd ds s K = ((Go.Dl.wk P ds (pickH ops hd [i]) s fun s' => t.wk P ops hd ds s' K) ∧ (Go.Dl.wk P ds (pickH ops hd [j]) s fun s' => u.wk P ops hd ds s' K) ∧ Go.Dl.wk P ds (pickH ops hd [k]) s fun s' => v.wk P ops hd ds s' K) := rfl
attribute [go_sem] prwk_leaf prwk_run prwk_bl prwk_ex prwk_dia prwk_here prwk_two prwk_thr
end
end
end Go.Dl

/- The logic of data: a great region whose order is drawn, what has run said by the bits of one number. -/
namespace Go.Dl
open Go.RowKit
noncomputable section

def edgesOf (o : Oper) : List Nat := (o.after.toList.filter fun e => Region.binds .any e).map (·.on)
def readyG (m : Nat) : List (List Nat) → Nat → List Nat
  | [], _ => []
  | l :: r, i => if (!m.testBit i && l.all fun k => m.testBit k) = true then i :: readyG m r (i + 1) else readyG m r (i + 1)
def readyM (E : List (List Nat)) (m : Nat) : List Nat := readyG m E 0
def arrOf (n m : Nat) : Array Bool := ((List.range n).map fun i => m.testBit i).toArray

theorem arrOf_get {n m i : Nat} (d : Bool) (h : i < n) : (arrOf n m).getD i d = m.testBit i := by
  simp [arrOf, Array.getD, h]
theorem arrOf_set {n m i : Nat} (h : i < n) : (arrOf n m).setIfInBounds i true = arrOf n (m ||| 2 ^ i) := by
  apply Array.ext
  · simp [arrOf]
  · intro j h1 h2
    have hj : j < n := by simpa [arrOf] using h2
    rw [Array.getElem_setIfInBounds (by simpa [arrOf] using hj)]
    by_cases hij : i = j
    · subst hij; simp [arrOf, Nat.testBit_or, Nat.testBit_two_pow]
    · simp [arrOf, Nat.testBit_or, Nat.testBit_two_pow, hij]
theorem arrOf_zero (n : Nat) : Array.replicate n false = arrOf n 0 := by
  apply Array.ext
  · simp [arrOf]
  · intro j h1 h2
    simp [arrOf]

theorem ready_mask {ops : List Oper} {E : List (List Nat)} (hE : ops.map edgesOf = E) (hn : E.all (fun l => l.all fun k => decide (k < ops.length)) = true) (m : Nat) : Region.ready .any ops.toArray (arrOf ops.length m) = readyM E m := by
  subst hE
  have key : ∀ (suf : List Oper) (k : Nat), (∀ (i : Nat) o, suf[i]? = some o → ops[k + i]? = some o) → k + suf.length = ops.length →
      ((List.range' k suf.length).filter fun i => !(arrOf ops.length m).getD i true && ((ops.toArray[i]?).map fun o : Oper => o.after.all fun e => !Region.binds .any e || (arrOf ops.length m).getD e.on false).getD false) = readyG m (suf.map edgesOf) k := by
    intro suf
    induction suf with
    | nil => intro k _ _; rfl
    | cons o suf ih =>
      intro k hs hl
      have hk : k < ops.length := by simp at hl; omega
      have ho : ops[k]? = some o := hs 0 o rfl
      have hb : (o.after.all fun e => !Region.binds .any e || (arrOf ops.length m).getD e.on false) = (edgesOf o).all fun k => m.testBit k := by
        have h1 : (edgesOf o).all (fun k => decide (k < ops.length)) = true := by
          rw [List.all_eq_true] at hn
          exact hn _ (List.mem_map.2 ⟨o, List.mem_of_getElem? ho, rfl⟩)
        unfold edgesOf at h1 ⊢
        rw [← Array.all_toList]
        generalize o.after.toList = l at h1 ⊢
        induction l with
        | nil => rfl
        | cons e l ih2 =>
          cases hbe : Region.binds .any e
          · simp only [List.filter_cons, hbe, Bool.false_eq_true, if_false, List.all_cons, Bool.not_false, Bool.true_or, Bool.true_and] at h1 ⊢
            exact ih2 h1
          · simp only [List.filter_cons, hbe, if_true, List.map_cons, List.all_cons, Bool.and_eq_true, decide_eq_true_eq, Bool.not_true, Bool.false_or] at h1 ⊢
            rw [arrOf_get _ h1.1, ih2 h1.2]
      rw [List.length_cons, List.range'_succ, List.filter_cons, List.map_cons, readyG]
      have ih' := ih (k + 1) (fun i o' h => by rw [Nat.add_assoc, Nat.add_comm 1 i]; exact hs (i + 1) o' (by simpa using h)) (by simp at hl; omega)
      simp only [List.getElem?_toArray] at ih' ⊢
      rw [ih', arrOf_get _ hk, ho]
      simp only [Option.map_some, Option.getD_some, hb]
  have h := key ops 0 (fun i o h => by simpa using h) (by simp)
  unfold Region.ready readyM
  rw [← h]
  simp only [List.size_toArray, List.range_eq_range']

def runM (E : List (List Nat)) : List Nat → Nat → Bool
  | [], _ => true
  | i :: l, m => (readyM E m == [i]) && runM E l (m ||| 2 ^ i)
def afterM : List Nat → Nat → Nat
  | [], m => m
  | i :: l, m => afterM l (m ||| 2 ^ i)
def ltB (n : Nat) (l : List Nat) : Bool := l.all fun i => decide (i < n)

def PR.okM (ops : List Oper) (E : List (List Nat)) : PR → Nat → Bool
  | .leaf, m => (readyM E m).isEmpty
  | .run l t, m => ltB ops.length l && (runM E l m && t.okM ops E (afterM l m))
  | .bl i t, m => decide (i < ops.length) && (Region.free .any ops.toArray (arrOf ops.length m) i && (readyM E m).contains i && (ops[i]?).isSome && t.okM ops E (m ||| 2 ^ i))
  | .ex i t, m => decide (i < ops.length) && (Region.free .any ops.toArray (arrOf ops.length m) i && (readyM E m).contains i && isExtract ops[i]? && t.okM ops E (m ||| 2 ^ i))
  | .dia i j t, m => decide (i < ops.length) && decide (j < ops.length) && ((readyM E m == [i, j]) && (readyM E (m ||| 2 ^ i) == [j]) && (readyM E (m ||| 2 ^ j) == [i]) && apartAt ops i j && (i != j) && t.okM ops E ((m ||| 2 ^ i) ||| 2 ^ j))
  | .here a t, m => (arrOf ops.length m == a) && t.okM ops E m
  | .two i t j u, m => decide (i < ops.length) && decide (j < ops.length) && ((readyM E m == [i, j]) && (ops[i]?).isSome && (ops[j]?).isSome && (t.len == u.len) && t.okM ops E (m ||| 2 ^ i) && u.okM ops E (m ||| 2 ^ j))
  | .thr i t j u k v, m => decide (i < ops.length) && decide (j < ops.length) && decide (k < ops.length) && ((readyM E m == [i, j, k]) && (ops[i]?).isSome && (ops[j]?).isSome && (ops[k]?).isSome && (t.len == u.len) && (t.len == v.len) && t.okM ops E (m ||| 2 ^ i) && u.okM ops E (m ||| 2 ^ j) && v.okM ops E (m ||| 2 ^ k))

theorem run_mask {ops : List Oper} {E : List (List Nat)} (hE : ops.map edgesOf = E) (hn : E.all (fun l => l.all fun k => decide (k < ops.length)) = true) : ∀ (l : List Nat) (m : Nat), ltB ops.length l = true → runM E l m = true → runOk ops l (arrOf ops.length m) = true ∧ afterA l (arrOf ops.length m) = arrOf ops.length (afterM l m)
  | [], m, _, _ => ⟨rfl, rfl⟩
  | i :: l, m, hl, h => by
    simp only [ltB, List.all_cons, Bool.and_eq_true, decide_eq_true_eq] at hl
    simp only [runM, Bool.and_eq_true] at h
    have ih := run_mask hE hn l _ (by simpa [ltB] using hl.2) h.2
    simp only [runOk, afterA, afterM, arrOf_set hl.1, ready_mask hE hn, h.1, Bool.true_and]
    exact ih

theorem pr_mask {ops : List Oper} {E : List (List Nat)} (hE : ops.map edgesOf = E) (hn : E.all (fun l => l.all fun k => decide (k < ops.length)) = true) : ∀ (t : PR) (m : Nat), t.okM ops E m = true → t.ok ops (arrOf ops.length m) = true
  | .leaf, m, h => by simpa only [PR.ok, PR.okM, ready_mask hE hn] using h
  | .run l t, m, h => by
    simp only [PR.okM, Bool.and_eq_true] at h
    have h1 := run_mask hE hn l m h.1 h.2.1
    simp only [PR.ok, h1.1, h1.2, Bool.true_and]
    exact pr_mask hE hn t _ h.2.2
  | .bl i t, m, h => by
    simp only [PR.okM, Bool.and_eq_true, decide_eq_true_eq] at h
    simp only [PR.ok, ready_mask hE hn, arrOf_set h.1, h.2.1.1.1, h.2.1.1.2, h.2.1.2, Bool.true_and]
    exact pr_mask hE hn t _ h.2.2
  | .ex i t, m, h => by
    simp only [PR.okM, Bool.and_eq_true, decide_eq_true_eq] at h
    simp only [PR.ok, ready_mask hE hn, arrOf_set h.1, h.2.1.1.1, h.2.1.1.2, h.2.1.2, Bool.true_and]
    exact pr_mask hE hn t _ h.2.2
  | .dia i j t, m, h => by
    simp only [PR.okM, Bool.and_eq_true, decide_eq_true_eq] at h
    obtain ⟨⟨hi, hj⟩, ⟨⟨⟨⟨h1, h2⟩, h3⟩, h4⟩, h5⟩, h6⟩ := h
    simp only [PR.ok, ready_mask hE hn, arrOf_set hi, arrOf_set hj, h1, h2, h3, h4, h5, Bool.true_and]
    exact pr_mask hE hn t _ h6
  | .here a t, m, h => by
    simp only [PR.okM, Bool.and_eq_true, beq_iff_eq] at h
    obtain ⟨rfl, h2⟩ := h
    simp only [PR.ok, BEq.rfl, Bool.true_and]
    exact pr_mask hE hn t _ h2
  | .two i t j u, m, h => by
    simp only [PR.okM, Bool.and_eq_true, decide_eq_true_eq] at h
    obtain ⟨⟨hi, hj⟩, ⟨⟨⟨⟨h1, h2⟩, h3⟩, h4⟩, h5⟩, h6⟩ := h
    simp only [PR.ok, ready_mask hE hn, arrOf_set hi, arrOf_set hj, h1, h2, h3, h4, Bool.true_and, pr_mask hE hn t _ h5, pr_mask hE hn u _ h6]
  | .thr i t j u k v, m, h => by
    simp only [PR.okM, Bool.and_eq_true, decide_eq_true_eq] at h
    obtain ⟨⟨⟨hi, hj⟩, hk⟩, ⟨⟨⟨⟨⟨⟨⟨h1, h2⟩, h3⟩, h4⟩, h5⟩, h6⟩, h7⟩, h8⟩, h9⟩ := h
    simp only [PR.ok, ready_mask hE hn, arrOf_set hi, arrOf_set hj, arrOf_set hk, h1, h2, h3, h4, h5, h6, Bool.true_and, pr_mask hE hn t _ h7, pr_mask hE hn u _ h8, pr_mask hE hn v _ h9]

def checkPM (ops : List Oper) (N : Nat) (E : List (List Nat)) (t : PR) : Bool :=
  dstB ops N && Region.noSelect ops.toArray && (E.all fun l => l.all fun k => decide (k < ops.length)) && t.okM ops E 0 && (t.len == ops.length)

theorem dw_treeM {P : Program} {id : Nat} {l : List Oper} {s : DS} {Q : Exit → DS → Prop} {N : Nat} (hd : List Nat) (E : List (List Nat)) (t : PR) (hm : P.follows .mixedOrders = true) (hn : s.n = N) (hE : l.map edgesOf = E) (hc : checkPM l N E t = true)
    (h : t.wk P l hd (l.map (·.dst)) s (Q .normal)) : DW P (.region id l.toArray true) s Q := by
  simp only [checkPM, Bool.and_eq_true] at hc
  obtain ⟨⟨⟨⟨h1, h2⟩, h3⟩, h4⟩, h5⟩ := hc
  refine dw_treeR hd t hm hn ?_ h
  simp only [checkPR, Bool.and_eq_true]
  rw [arrOf_zero]
  exact ⟨⟨⟨h1, h2⟩, pr_mask hE h3 t 0 h4⟩, h5⟩
end
end Go.Dl

/- Plain: one character of UTF-8, as the reference reads it and as Go's library does. -/
namespace Go.Proofs.YtdmmhemfnnbddaaGreatDoor
open Go.Lib

def encN (p : Nat) : List Nat :=
  if p < 128 then [p] else if p < 2048 then [192 + p / 64, 128 + p % 64] else if p < 65536 then [224 + p / 4096, 128 + p / 64 % 64, 128 + p % 64]
  else [240 + p / 262144, 128 + p / 4096 % 64, 128 + p / 64 % 64, 128 + p % 64]
def leadN (b0 : Nat) : Nat := if 240 ≤ b0 then 4 else if 224 ≤ b0 then 3 else if 192 ≤ b0 then 2 else 1
def valN (b0 b1 b2 b3 : Nat) : Nat :=
  if 240 ≤ b0 then (((b0 - 240) * 64 + b1 % 64) * 64 + b2 % 64) * 64 + b3 % 64 else if 224 ≤ b0 then ((b0 - 224) * 64 + b1 % 64) * 64 + b2 % 64
  else if 192 ≤ b0 then (b0 - 192) * 64 + b1 % 64 else b0
def scalN (p : Nat) : Prop := p ≤ 1114111 ∧ (p < 55296 ∨ 57343 < p)
instance (p : Nat) : Decidable (scalN p) := by unfold scalN; infer_instance
def fstN (n b0 b1 b2 b3 : Nat) : Option (Nat × Nat) :=
  if n < leadN b0 then none
  else if scalN (valN b0 b1 b2 b3) ∧ encN (valN b0 b1 b2 b3) = [b0, b1, b2, b3].take (leadN b0) then some (valN b0 b1 b2 b3, leadN b0) else none

def okN (d : Nat × Nat) : Option (Nat × Nat) := if d = (65533, 1) then none else some d
theorem okN_bad : okN (65533, 1) = none := by simp [okN]
theorem okN_some {a b : Nat} (h : ¬ (a = 65533 ∧ b = 1)) : okN (a, b) = some (a, b) := by simp [okN, h]

theorem fst_yes {n b0 b1 b2 b3 k p : Nat} (e1 : leadN b0 = k) (e2 : valN b0 b1 b2 b3 = p) (hn : ¬ n < k) (h : scalN p ∧ encN p = [b0, b1, b2, b3].take k) : fstN n b0 b1 b2 b3 = some (p, k) := by
  subst e1; subst e2
  unfold fstN
  rw [if_neg hn, if_pos h]
theorem fst_no {n b0 b1 b2 b3 k p : Nat} (e1 : leadN b0 = k) (e2 : valN b0 b1 b2 b3 = p) (h : ¬ (scalN p ∧ encN p = [b0, b1, b2, b3].take k)) : fstN n b0 b1 b2 b3 = none := by
  subst e1; subst e2
  unfold fstN
  split
  · rfl
  · first | rfl | rw [if_neg h]
theorem fst_short {n b0 b1 b2 b3 k : Nat} (e1 : leadN b0 = k) (hn : n < k) : fstN n b0 b1 b2 b3 = none := by
  subst e1
  unfold fstN
  rw [if_pos hn]

theorem fst1 (n b0 b1 b2 b3 : Nat) (hn : 1 ≤ n) (h : b0 < 192) : fstN n b0 b1 b2 b3 = okN (decodeN n b0 b1 b2 b3) := by
  have e1 : leadN b0 = 1 := by unfold leadN; (repeat' split) <;> omega
  have e2 : valN b0 b1 b2 b3 = b0 := by unfold valN; (repeat' split) <;> omega
  by_cases h1 : b0 < 128
  · have e3 : decodeN n b0 b1 b2 b3 = (b0, 1) := by simp [decodeN, h1]
    rw [e3, okN_some (by omega)]
    exact fst_yes e1 e2 (by omega) ⟨⟨by omega, by omega⟩, by simp [encN, h1]⟩
  · have e3 : decodeN n b0 b1 b2 b3 = (65533, 1) := decodeN_bad n b0 b1 b2 b3 (.inl ⟨by omega, by omega⟩)
    rw [e3, okN_bad]
    refine fst_no e1 e2 ?_
    simp only [List.take_succ_cons, List.take_zero]
    rintro ⟨_, h2⟩
    simp [encN, h1, show b0 < 2048 by omega] at h2

theorem fst2 (n b0 b1 b2 b3 : Nat) (h1 : b1 < 256) (h : 192 ≤ b0) (h' : b0 < 224) : fstN n b0 b1 b2 b3 = okN (decodeN n b0 b1 b2 b3) := by
  have e1 : leadN b0 = 2 := by unfold leadN; (repeat' split) <;> omega
  have e2 : valN b0 b1 b2 b3 = (b0 - 192) * 64 + b1 % 64 := by unfold valN; (repeat' split) <;> omega
  have hb : b0 / 32 = 6 := by omega
  have hp : b0 % 32 * 64 + b1 % 64 = (b0 - 192) * 64 + b1 % 64 := by omega
  by_cases hn : n < 2
  · rw [fst_short e1 hn]
    have e3 : decodeN n b0 b1 b2 b3 = (65533, 1) := by
      unfold decodeN
      rw [if_neg (by omega), if_neg (by omega), if_neg (by omega), if_neg (by omega)]
    rw [e3, okN_bad]
  by_cases hc : b1 / 64 = 2
  · have e3 : decodeN n b0 b1 b2 b3 = if b0 % 32 * 64 + b1 % 64 ≥ 128 then (b0 % 32 * 64 + b1 % 64, 2) else (65533, 1) := by
      unfold decodeN
      rw [if_neg (by omega), if_pos ⟨hb, by omega, hc⟩]
    rw [e3, hp]
    by_cases hv : (b0 - 192) * 64 + b1 % 64 ≥ 128
    · rw [if_pos hv, okN_some (by omega)]
      refine fst_yes e1 e2 hn ⟨⟨by omega, by omega⟩, ?_⟩
      simp only [List.take_succ_cons, List.take_zero]
      rw [encN, if_neg (by omega), if_pos (by omega)]
      simp only [List.cons.injEq, and_true]
      omega
    · rw [if_neg hv, okN_bad]
      refine fst_no e1 e2 ?_
      simp only [List.take_succ_cons, List.take_zero]
      rintro ⟨_, h2⟩
      rw [encN, if_pos (by omega)] at h2
      simp at h2
  · have e3 : decodeN n b0 b1 b2 b3 = (65533, 1) := by
      unfold decodeN
      rw [if_neg (by omega), if_neg (by omega), if_neg (by omega), if_neg (by omega)]
    rw [e3, okN_bad]
    refine fst_no e1 e2 ?_
    simp only [List.take_succ_cons, List.take_zero]
    rintro ⟨_, h2⟩
    rw [encN] at h2
    split at h2
    · simp at h2
    · rw [if_pos (by omega)] at h2
      simp only [List.cons.injEq, and_true] at h2
      omega

theorem fst3 (n b0 b1 b2 b3 : Nat) (h1 : b1 < 256) (h2 : b2 < 256) (h : 224 ≤ b0) (h' : b0 < 240) : fstN n b0 b1 b2 b3 = okN (decodeN n b0 b1 b2 b3) := by
  have e1 : leadN b0 = 3 := by unfold leadN; (repeat' split) <;> omega
  have e2 : valN b0 b1 b2 b3 = ((b0 - 224) * 64 + b1 % 64) * 64 + b2 % 64 := by unfold valN; (repeat' split) <;> omega
  have hb : b0 / 16 = 14 := by omega
  have hp : b0 % 16 * 4096 + b1 % 64 * 64 + b2 % 64 = ((b0 - 224) * 64 + b1 % 64) * 64 + b2 % 64 := by omega
  have bad : ¬ (3 ≤ n ∧ b1 / 64 = 2 ∧ b2 / 64 = 2) → decodeN n b0 b1 b2 b3 = (65533, 1) := fun hh => by
    unfold decodeN
    rw [if_neg (by omega), if_neg (by omega), if_neg (by omega), if_neg (by omega)]
  by_cases hn : n < 3
  · rw [fst_short e1 hn, bad (by omega), okN_bad]
  generalize hq : ((b0 - 224) * 64 + b1 % 64) * 64 + b2 % 64 = p at *
  by_cases hc : b1 / 64 = 2 ∧ b2 / 64 = 2
  · have e3 : decodeN n b0 b1 b2 b3 = if p ≥ 2048 ∧ (p < 55296 ∨ (57344 ≤ p ∧ p ≤ 1114111)) then (p, 3) else (65533, 1) := by
      unfold decodeN
      rw [if_neg (by omega), if_neg (by omega), if_pos ⟨hb, by omega, by omega⟩, hp]
    rw [e3]
    by_cases hv : p ≥ 2048 ∧ (p < 55296 ∨ (57344 ≤ p ∧ p ≤ 1114111))
    · rw [if_pos hv, okN_some (by omega)]
      refine fst_yes e1 e2 hn ⟨⟨by omega, by omega⟩, ?_⟩
      simp only [List.take_succ_cons, List.take_zero]
      rw [encN, if_neg (by omega), if_neg (by omega), if_pos (by omega)]
      simp only [List.cons.injEq, and_true]
      omega
    · rw [if_neg hv, okN_bad]
      refine fst_no e1 e2 ?_
      simp only [List.take_succ_cons, List.take_zero]
      rintro ⟨⟨s1, s2⟩, h2⟩
      rw [encN] at h2
      split at h2
      · simp at h2
      · rw [if_pos (by omega)] at h2
        simp at h2
  · rw [bad (by omega), okN_bad]
    refine fst_no e1 e2 ?_
    simp only [List.take_succ_cons, List.take_zero]
    rintro ⟨_, h2⟩
    rw [encN] at h2
    split at h2
    · simp at h2
    · split at h2
      · simp at h2
      · rw [if_pos (by omega)] at h2
        simp only [List.cons.injEq, and_true] at h2
        omega

theorem fst4 (n b0 b1 b2 b3 : Nat) (h0 : b0 < 256) (h1 : b1 < 256) (h2 : b2 < 256) (h3 : b3 < 256) (h : 240 ≤ b0) : fstN n b0 b1 b2 b3 = okN (decodeN n b0 b1 b2 b3) := by
  have e1 : leadN b0 = 4 := by unfold leadN; (repeat' split) <;> omega
  have e2 : valN b0 b1 b2 b3 = (((b0 - 240) * 64 + b1 % 64) * 64 + b2 % 64) * 64 + b3 % 64 := by unfold valN; (repeat' split) <;> omega
  have bad : ¬ (4 ≤ n ∧ b0 < 248 ∧ b1 / 64 = 2 ∧ b2 / 64 = 2 ∧ b3 / 64 = 2) → decodeN n b0 b1 b2 b3 = (65533, 1) := fun hh => by
    unfold decodeN
    rw [if_neg (by omega), if_neg (by omega), if_neg (by omega), if_neg (by omega)]
  by_cases hn : n < 4
  · rw [fst_short e1 hn, bad (by omega), okN_bad]
  by_cases hc : b0 < 248 ∧ b1 / 64 = 2 ∧ b2 / 64 = 2 ∧ b3 / 64 = 2
  · have hp : b0 % 8 * 262144 + b1 % 64 * 4096 + b2 % 64 * 64 + b3 % 64 = (((b0 - 240) * 64 + b1 % 64) * 64 + b2 % 64) * 64 + b3 % 64 := by omega
    have hb : b0 / 8 = 30 := by omega
    generalize hq : (((b0 - 240) * 64 + b1 % 64) * 64 + b2 % 64) * 64 + b3 % 64 = p at *
    have e3 : decodeN n b0 b1 b2 b3 = if p ≥ 65536 ∧ (p < 55296 ∨ (57344 ≤ p ∧ p ≤ 1114111)) then (p, 4) else (65533, 1) := by
      unfold decodeN
      rw [if_neg (by omega), if_neg (by omega), if_neg (by omega), if_pos ⟨hb, by omega, by omega, by omega⟩, hp]
    rw [e3]
    by_cases hv : p ≥ 65536 ∧ (p < 55296 ∨ (57344 ≤ p ∧ p ≤ 1114111))
    · rw [if_pos hv, okN_some (by omega)]
      refine fst_yes e1 e2 hn ⟨⟨by omega, by omega⟩, ?_⟩
      simp only [List.take_succ_cons, List.take_zero]
      rw [encN, if_neg (by omega), if_neg (by omega), if_neg (by omega)]
      simp only [List.cons.injEq, and_true]
      omega
    · rw [if_neg hv, okN_bad]
      refine fst_no e1 e2 ?_
      simp only [List.take_succ_cons, List.take_zero]
      rintro ⟨⟨s1, s2⟩, h2⟩
      rw [encN] at h2
      split at h2
      · simp at h2
      · split at h2
        · simp at h2
        · rw [if_pos (by omega)] at h2
          simp at h2
  · rw [bad (by omega), okN_bad]
    refine fst_no e1 e2 ?_
    simp only [List.take_succ_cons, List.take_zero]
    rintro ⟨⟨s1, s2⟩, h2⟩
    generalize hq : (((b0 - 240) * 64 + b1 % 64) * 64 + b2 % 64) * 64 + b3 % 64 = p at *
    rw [encN] at h2
    split at h2
    · simp at h2
    · split at h2
      · simp at h2
      · split at h2
        · simp at h2
        · simp only [List.cons.injEq, and_true] at h2
          omega

theorem fst_decode (n b0 b1 b2 b3 : Nat) (hn : 1 ≤ n) (h0 : b0 < 256) (h1 : b1 < 256) (h2 : b2 < 256) (h3 : b3 < 256) : fstN n b0 b1 b2 b3 = okN (decodeN n b0 b1 b2 b3) := by
  by_cases c1 : b0 < 192
  · exact fst1 n b0 b1 b2 b3 hn c1
  by_cases c2 : b0 < 224
  · exact fst2 n b0 b1 b2 b3 h1 (by omega) c2
  by_cases c3 : b0 < 240
  · exact fst3 n b0 b1 b2 b3 h1 h2 (by omega) c3
  · exact fst4 n b0 b1 b2 b3 h0 h1 h2 h3 (by omega)
end Go.Proofs.YtdmmhemfnnbddaaGreatDoor

/- Plain: one character at the head of a list of bytes. -/
namespace Go.Proofs.YtdmmhemfnnbddaaGreatDoor
open Go.Lib

def bAt (bs : List UInt8) (i : Nat) : Nat := (bs.getD i 0).toNat
def fstL (bs : List UInt8) : Option (Nat × Nat) := fstN bs.length (bAt bs 0) (bAt bs 1) (bAt bs 2) (bAt bs 3)
def baseN (b0 : Nat) : Nat := if 240 ≤ b0 then b0 - 240 else if 224 ≤ b0 then b0 - 224 else if 192 ≤ b0 then b0 - 192 else b0
def pf (p : Nat) (xs : List UInt8) : Nat := xs.foldl (fun p b => p * 64 + b.toNat % 64) p
theorem pf_snoc (p : Nat) (xs : List UInt8) (b : UInt8) : pf p (xs ++ [b]) = pf p xs * 64 + b.toNat % 64 := by simp [pf]
theorem pf_lt : ∀ (xs : List UInt8) (p : Nat), pf p xs < (p + 1) * 64 ^ xs.length
  | [], p => by simp [pf]
  | b :: xs, p => by
    have h := pf_lt xs (p * 64 + b.toNat % 64)
    have e : pf p (b :: xs) = pf (p * 64 + b.toNat % 64) xs := rfl
    rw [e]
    refine Nat.lt_of_lt_of_le h ?_
    rw [List.length_cons, Nat.pow_succ, Nat.mul_comm (64 ^ xs.length) 64, ← Nat.mul_assoc]
    exact Nat.mul_le_mul_right _ (by omega)
theorem lead_cases (b0 : Nat) : (leadN b0 = 1 ∧ b0 < 192) ∨ (leadN b0 = 2 ∧ 192 ≤ b0 ∧ b0 < 224) ∨ (leadN b0 = 3 ∧ 224 ≤ b0 ∧ b0 < 240) ∨ (leadN b0 = 4 ∧ 240 ≤ b0) := by
  unfold leadN; (repeat' split) <;> omega
theorem base_le (b0 : Nat) : baseN b0 ≤ b0 := by unfold baseN; (repeat' split) <;> omega

def tailL (bs : List UInt8) : List UInt8 := (bs.drop 1).take (leadN (bAt bs 0) - 1)
theorem val_pf {bs : List UInt8} (h : leadN (bAt bs 0) ≤ bs.length) : valN (bAt bs 0) (bAt bs 1) (bAt bs 2) (bAt bs 3) = pf (baseN (bAt bs 0)) (tailL bs) := by
  unfold tailL
  rcases lead_cases (bAt bs 0) with ⟨e, c⟩ | ⟨e, c, c'⟩ | ⟨e, c, c'⟩ | ⟨e, c⟩ <;> rw [e] at h ⊢
  · simp only [Nat.sub_self, List.take_zero, pf, List.foldl_nil]
    unfold valN baseN; (repeat' split) <;> omega
  · match bs, h with
    | a :: b :: l, _ =>
      simp only [bAt, List.getD_cons_zero, List.getD_cons_succ, List.drop_succ_cons, List.drop_zero, List.take_succ_cons, List.take_zero, pf, List.foldl_cons, List.foldl_nil] at *
      unfold valN baseN; (repeat' split) <;> omega
  · match bs, h with
    | a :: b :: d :: l, _ =>
      simp only [bAt, List.getD_cons_zero, List.getD_cons_succ, List.drop_succ_cons, List.drop_zero, List.take_succ_cons, List.take_zero, pf, List.foldl_cons, List.foldl_nil] at *
      unfold valN baseN; (repeat' split) <;> omega
  · match bs, h with
    | a :: b :: d :: f :: l, _ =>
      simp only [bAt, List.getD_cons_zero, List.getD_cons_succ, List.drop_succ_cons, List.drop_zero, List.take_succ_cons, List.take_zero, pf, List.foldl_cons, List.foldl_nil] at *
      unfold valN baseN; (repeat' split) <;> omega
theorem head_take {bs : List UInt8} (h : leadN (bAt bs 0) ≤ bs.length) : [bAt bs 0, bAt bs 1, bAt bs 2, bAt bs 3].take (leadN (bAt bs 0)) = (bs.take (leadN (bAt bs 0))).map UInt8.toNat := by
  rcases lead_cases (bAt bs 0) with ⟨e, c⟩ | ⟨e, c, c'⟩ | ⟨e, c, c'⟩ | ⟨e, c⟩ <;> rw [e] at h ⊢
  · match bs, h with
    | a :: l, _ => simp [bAt]
  · match bs, h with
    | a :: b :: l, _ => simp [bAt]
  · match bs, h with
    | a :: b :: d :: l, _ => simp [bAt]
  · match bs, h with
    | a :: b :: d :: f :: l, _ => simp [bAt]
theorem tail_len {bs : List UInt8} (h : leadN (bAt bs 0) ≤ bs.length) : (tailL bs).length + 1 = leadN (bAt bs 0) := by
  unfold tailL
  rcases lead_cases (bAt bs 0) with ⟨e, c⟩ | ⟨e, c, c'⟩ | ⟨e, c, c'⟩ | ⟨e, c⟩ <;> rw [e] at h ⊢ <;> simp <;> omega
theorem tail_at {bs : List UInt8} {k : Nat} {b : UInt8} (h : (tailL bs)[k]? = some b) : bs[k + 1]? = some b := by
  unfold tailL at h
  rw [List.getElem?_take] at h
  split at h
  · rw [List.getElem?_drop] at h; rwa [Nat.add_comm]
  · cases h

theorem enc_lt {p : Nat} (hp : p ≤ 1114111) : ∀ x ∈ encN p, x < 256 := by
  unfold encN
  (repeat' split) <;> simp <;> omega
theorem enc_bytes {p : Nat} (hp : p ≤ 1114111) {tk : List UInt8} : (encN p).map UInt8.ofNat = tk ↔ encN p = tk.map UInt8.toNat := by
  constructor
  · intro h
    rw [← h, List.map_map]
    conv => lhs; rw [← List.map_id (encN p)]
    apply List.map_congr_left
    intro x hx
    have := enc_lt hp x hx
    simp [Function.comp]; omega
  · intro h
    rw [h, List.map_map]
    conv => rhs; rw [← List.map_id tk]
    apply List.map_congr_left
    intro x hx
    simp [Function.comp]

theorem fstL_short {bs : List UInt8} (h : bs.length < leadN (bAt bs 0)) : fstL bs = none := fst_short rfl h
theorem fstL_eq {bs : List UInt8} (h : leadN (bAt bs 0) ≤ bs.length) : fstL bs = if scalN (pf (baseN (bAt bs 0)) (tailL bs)) ∧ (encN (pf (baseN (bAt bs 0)) (tailL bs))).map UInt8.ofNat = bs.take (leadN (bAt bs 0)) then some (pf (baseN (bAt bs 0)) (tailL bs), leadN (bAt bs 0)) else none := by
  have e := val_pf h
  unfold fstL
  by_cases hs : scalN (pf (baseN (bAt bs 0)) (tailL bs))
  · by_cases he : (encN (pf (baseN (bAt bs 0)) (tailL bs))).map UInt8.ofNat = bs.take (leadN (bAt bs 0))
    · rw [if_pos ⟨hs, he⟩]
      exact fst_yes rfl e (by omega) ⟨hs, by rw [head_take h]; exact (enc_bytes hs.1).1 he⟩
    · rw [if_neg (fun hh => he hh.2)]
      exact fst_no rfl e fun hh => he ((enc_bytes hs.1).2 (by rw [← head_take h]; exact hh.2))
  · rw [if_neg (fun hh => hs hh.1)]
    exact fst_no rfl e fun hh => hs hh.1

theorem fstL_decode {bs : List UInt8} (h : bs ≠ []) : fstL bs = okN (decodeL bs) := by
  rw [decodeL_N]
  have hl : 1 ≤ bs.length := List.length_pos_iff.2 h
  exact fst_decode _ _ _ _ _ hl (UInt8.toNat_lt _) (UInt8.toNat_lt _) (UInt8.toNat_lt _) (UInt8.toNat_lt _)
end Go.Proofs.YtdmmhemfnnbddaaGreatDoor

/- Plain: all characters of a list of bytes. -/
namespace Go.Proofs.YtdmmhemfnnbddaaGreatDoor
open Go.Lib

theorem fstL_width {bs : List UInt8} {p k : Nat} (h : fstL bs = some (p, k)) : 1 ≤ k ∧ k ≤ bs.length ∧ p ≤ 1114111 := by
  by_cases hl : leadN (bAt bs 0) ≤ bs.length
  · rw [fstL_eq hl] at h
    split at h
    · rename_i hs
      injection h with h; injection h with h1 h2
      subst h1; subst h2
      have := tail_len hl
      exact ⟨by omega, hl, hs.1.1⟩
    · cases h
  · rw [fstL_short (by omega)] at h; cases h

def ptsN : Nat → List UInt8 → Option (List Nat)
  | 0, _ => some []
  | n + 1, bs => if bs = [] then some [] else match fstL bs with
    | none => none
    | some (p, k) => (ptsN n (bs.drop k)).map fun l => p :: l
theorem ptsN_fuel : ∀ (n m : Nat) (bs : List UInt8), bs.length ≤ n → bs.length ≤ m → ptsN n bs = ptsN m bs
  | 0, m, bs, hn, _ => by
    have : bs = [] := List.eq_nil_of_length_eq_zero (by omega)
    subst this
    cases m <;> simp [ptsN]
  | n + 1, 0, bs, _, hm => by
    have : bs = [] := List.eq_nil_of_length_eq_zero (by omega)
    subst this
    simp [ptsN]
  | n + 1, m + 1, bs, hn, hm => by
    unfold ptsN
    split
    · rfl
    · split
      · rfl
      · rename_i p k hf
        have := fstL_width hf
        rw [ptsN_fuel n m (bs.drop k) (by simp; omega) (by simp; omega)]
def ptsL (bs : List UInt8) : Option (List Nat) := ptsN bs.length bs
theorem ptsL_nil : ptsL [] = some [] := rfl
theorem ptsL_bad {bs : List UInt8} (h : bs ≠ []) (hf : fstL bs = none) : ptsL bs = none := by
  have : 0 < bs.length := List.length_pos_iff.2 h
  obtain ⟨n, hn⟩ : ∃ n, bs.length = n + 1 := ⟨bs.length - 1, by omega⟩
  unfold ptsL
  rw [hn]
  simp [ptsN, h, hf]
theorem ptsL_step {bs : List UInt8} {p k : Nat} (hf : fstL bs = some (p, k)) : ptsL bs = (ptsL (bs.drop k)).map fun l => p :: l := by
  have hw := fstL_width hf
  have h : bs ≠ [] := fun e => by subst e; simp at hw; omega
  obtain ⟨n, hn⟩ : ∃ n, bs.length = n + 1 := ⟨bs.length - 1, by omega⟩
  unfold ptsL
  rw [hn]
  simp only [ptsN, h, if_false, hf]
  rw [ptsN_fuel n (bs.drop k).length (bs.drop k) (by simp; omega) (Nat.le_refl _)]

theorem okN_iff {d : Nat × Nat} : okN d = if d.1 = 65533 ∧ d.2 = 1 then none else some d := by
  unfold okN
  obtain ⟨a, b⟩ := d
  simp

theorem ptsL_valid : ∀ (n : Nat) (bs : List UInt8), bs.length ≤ n → (ptsL bs).isSome = validD bs
  | n, [], _ => rfl
  | 0, b :: l, h => by simp at h
  | n + 1, b :: l, h => by
    have hne : (b :: l) ≠ [] := by simp
    have hd := fstL_decode hne
    rw [okN_iff] at hd
    rw [validD_step _ hne]
    split
    · rename_i hb
      rw [if_pos hb] at hd
      rw [ptsL_bad hne hd]; rfl
    · rename_i hb
      rw [if_neg hb] at hd
      have hw := fstL_width (p := (decodeL (b :: l)).1) (k := (decodeL (b :: l)).2) hd
      rw [ptsL_step (p := (decodeL (b :: l)).1) (k := (decodeL (b :: l)).2) hd]
      rw [Option.isSome_map]
      exact ptsL_valid n _ (by simp at h ⊢; omega)
theorem pts_valid (bs : List UInt8) : (ptsL bs).isSome = validD bs := ptsL_valid bs.length bs (Nat.le_refl _)

def ctl (n : Nat) : Bool := decide (n < 32) || n == 127
theorem fst_ascii {b : UInt8} {l : List UInt8} (h : b.toNat < 128) : fstL (b :: l) = some (b.toNat, 1) := by
  rw [fstL_decode (by simp), decodeL_ascii b l h]
  exact okN_some (by omega)
theorem fst_wide {bs : List UInt8} {p k : Nat} (h : fstL bs = some (p, k)) (hb : 128 ≤ bAt bs 0) : 128 ≤ p ∧ ∀ x ∈ bs.take k, 128 ≤ x.toNat := by
  by_cases hl : leadN (bAt bs 0) ≤ bs.length
  · rw [fstL_eq hl] at h
    split at h
    · rename_i hs
      injection h with h; injection h with h1 h2
      obtain ⟨hs1, hs2⟩ := hs
      rw [h1] at hs1 hs2
      rw [h2] at hs2
      have hp : 128 ≤ p := by
        rcases Nat.lt_or_ge p 128 with hlt | hge
        · exfalso
          rw [encN, if_pos hlt] at hs2
          have h3 := (enc_bytes hs1.1 (tk := bs.take k)).1 (by rw [encN, if_pos hlt]; exact hs2)
          rw [encN, if_pos hlt] at h3
          have hw : 1 ≤ k ∧ k ≤ bs.length := by have := tail_len hl; omega
          cases hbs : bs with
          | nil => rw [hbs] at hw; simp at hw; omega
          | cons a l =>
            rw [hbs] at h3 hb
            obtain ⟨j, hj⟩ : ∃ j, k = j + 1 := ⟨k - 1, by omega⟩
            rw [hj] at h3
            simp [bAt] at h3 hb
            omega
        · exact hge
      refine ⟨hp, fun x hx => ?_⟩
      rw [← hs2] at hx
      obtain ⟨y, hy, rfl⟩ := List.mem_map.1 hx
      have hlt := enc_lt hs1.1 y hy
      have : 128 ≤ y := by
        unfold encN at hy
        (repeat' split at hy) <;> simp at hy <;> omega
      simp; omega
    · cases h
  · rw [fstL_short (by omega)] at h; cases h

theorem ctl_pts : ∀ (n : Nat) (bs : List UInt8) (l : List Nat), bs.length ≤ n → ptsL bs = some l → l.any ctl = bs.any fun b => ctl b.toNat
  | n, [], l, _, h => by rw [ptsL_nil] at h; injection h with h; subst h; rfl
  | 0, b :: r, l, hn, _ => by simp at hn
  | n + 1, b :: r, l, hn, h => by
    have hne : (b :: r) ≠ [] := by simp
    cases hf : fstL (b :: r) with
    | none => rw [ptsL_bad hne hf] at h; cases h
    | some d =>
      obtain ⟨p, k⟩ := d
      have hw := fstL_width hf
      rw [ptsL_step hf] at h
      cases hr : ptsL ((b :: r).drop k) with
      | none => rw [hr] at h; cases h
      | some q =>
        rw [hr] at h; injection h with h; subst h
        have ih := ctl_pts n _ q (by simp at hn ⊢; omega) hr
        rw [List.any_cons, ih]
        conv => rhs; rw [← List.take_append_drop k (b :: r)]
        rw [List.any_append]
        congr 1
        by_cases hb : b.toNat < 128
        · rw [fst_ascii hb] at hf
          injection hf with hf; injection hf with h1 h2
          subst h1; subst h2; simp
        · obtain ⟨h1, h2⟩ := fst_wide hf (by simp [bAt]; omega)
          have e1 : ctl p = false := by simp [ctl]; omega
          rw [e1]
          symm
          rw [List.any_eq_false]
          intro x hx
          have := h2 x hx
          simp [ctl]; omega
end Go.Proofs.YtdmmhemfnnbddaaGreatDoor

/- Entries: data; small functions. -/
namespace Go.Proofs.YtdmmhemfnnbddaaGreatDoor
open Go.Dl
open Go.Dl renaming dw_seq → kA, dw_block → kB, dw_reg → kC, dw_skip → kD, dw_exit → kE, dw_ret → kF, dw_cond → kG, guardC_f → kH, guardC_t → kI, dw_drw → kJ, dw_weaken → kK, sub_kn → kL, sub_ml → kM
open Go.Dl.CallC renaming mk → kN, light → kO
open Go.Dl.LeL renaming of_eq → kP
attribute [local irreducible] DW DCalls ECalls wk IW

abbrev li (n : Int) : C := .lit (.int .i64 n)
abbrev lb (b : Bool) : C := .lit (.bool b)
abbrev dv (c : C) : D := .one (.c c)
abbrev ints (xs : List Int) : List (List C) := xs.map fun x => [li x]
abbrev ls (s : ByteArray) : C := .lit (.string s)

structure Lnk where
  kind : Int
  tgt : Int
deriving DecidableEq
structure Sns where
  gloss : ByteArray
  txt : ByteArray
deriving DecidableEq
structure Phon where
  name : ByteArray
  feat : Int
deriving DecidableEq
structure Ent where
  id : Int
  form : List Int
  cls : Int
  alts : List (List Int)
  main : Int
  senses : List Sns
  links : List Lnk
  refs : List Lnk
deriving DecidableEq

def Lnk.enc (x : Lnk) : List C := [li x.kind, li x.tgt]
def Sns.enc (x : Sns) : List C := [ls x.gloss, ls x.txt]
def Phon.enc (x : Phon) : List C := [ls x.name, li x.feat]
abbrev altC (a : List Int) : List C := [.sl 1 (ints a)]
def Ent.enc (e : Ent) : List C := [li e.id, .sl 1 (ints e.form), li e.cls, .sl 1 (e.alts.map altC), li e.main, .sl 2 (e.senses.map Sns.enc), .sl 2 (e.links.map Lnk.enc), .sl 2 (e.refs.map Lnk.enc)]
def Ent.row (e : Ent) : List T := [.c (li e.id), .c (.sl 1 (ints e.form)), .c (li e.cls), .c (.sl 1 (e.alts.map altC)), .c (li e.main), .c (.sl 2 (e.senses.map Sns.enc)), .c (.sl 2 (e.links.map Lnk.enc)), .c (.sl 2 (e.refs.map Lnk.enc))]
def Lnk.row (x : Lnk) : List T := [.c (li x.kind), .c (li x.tgt)]
def Sns.row (x : Sns) : List T := [.c (ls x.gloss), .c (ls x.txt)]
def invRow (g : List Phon) : List T := [.c (.sl 2 (g.map Phon.enc))]
def noEnt : Ent := ⟨0, [], 0, [], 0, [], [], []⟩

theorem ints_at {xs : List Int} {k : Nat} {x : Int} (h : xs[k]? = some x) : (ints xs)[k]? = some [li x] := by simp [h]
theorem bytesC_at {s : ByteArray} {k : Nat} {b : UInt8} (h : s.data.toList[k]? = some b) : (bytesC s)[k]? = some [.lit (.int .u8 b.toNat)] := by simp [bytesC, h]

theorem bytes_eq (a b : ByteArray) : (a == b) = true ↔ a = b := by
  constructor
  · intro h; cases a; cases b; rw [ByteArray.mk.injEq]; exact eq_of_beq h
  · intro h; subst h; cases a; exact beq_self_eq_true (α := Array UInt8) _
theorem bytes_ne {a b : ByteArray} (h : a ≠ b) : (a == b) = false := by
  cases h2 : (a == b)
  · rfl
  · exact absurd ((bytes_eq a b).1 h2) h

def ident (n : Int) : Bool := decide (1 ≤ n) && decide (n ≤ 1099511627776)

set_option maxRecDepth 10000 in
theorem ident_D (n : Int) : DCalls Tryz.prog 69 [dv (li n)] (dv (lb (ident n))) := by
  refine dcalls (N := 9) (rs := [.tmp 2]) (by kernel_rfl) Tryz.func69 rfl rfl rfl (by simp) ?_
  (repeat' (first | refine kA ?_ | refine kB ?_ | ((first | (refine kC (N := 9) rfl (by kernel_rfl) ?_) | refine kD ?_ | refine kE ?_ | refine kF ?_); simp +decide only [go_sem]) | (apply kG; (simp +decide only [go_sem]; rfl); all_goals (intro hcnd; first | (exact absurd hcnd (by decide)) | skip)) | ((first | refine kH ?_ ?_ | refine kI ?_ ?_) <;> (intro hcnd; simp +decide only [go_sem, hcnd]))))
  all_goals (simp_all [ident] <;> omega)

set_option maxRecDepth 10000 in
theorem rIdent_D (n : Int) : DCalls Tryz.prog 99 [dv (li n)] (dv (lb (ident n))) := by
  refine dcalls (N := 9) (rs := [.tmp 2]) (by kernel_rfl) Tryz.func99 rfl rfl rfl (by simp) ?_
  (repeat' (first | refine kA ?_ | refine kB ?_ | ((first | (refine kC (N := 9) rfl (by kernel_rfl) ?_) | refine kD ?_ | refine kE ?_ | refine kF ?_); simp +decide only [go_sem]) | (apply kG; (simp +decide only [go_sem]; rfl); all_goals (intro hcnd; first | (exact absurd hcnd (by decide)) | skip)) | ((first | refine kH ?_ ?_ | refine kI ?_ ?_) <;> (intro hcnd; simp +decide only [go_sem, hcnd]))))
  all_goals (simp_all [ident] <;> omega)

def okRef (r : Lnk) : Bool := ident r.kind && ident r.tgt

set_option maxRecDepth 10000 in
theorem named_D (r : Lnk) : DCalls Tryz.prog 97 [.agg r.row] (dv (lb (okRef r))) := by
  refine dcalls (N := 11) (rs := [.tmp 2]) (by kernel_rfl) Tryz.func97 rfl rfl rfl (by simp) ?_
  cases h : ident r.kind
  · (repeat' (first | refine kA ?_ | refine kB ?_ | ((first | (refine kC (N := 11) rfl (by kernel_rfl) ?_) | refine kD ?_ | refine kE ?_ | (refine kN (ident_D r.kind) (kP rfl) ?_) | (refine kO (ident_D r.kind) (kP rfl) ?_) | refine kF ?_); simp +decide only [go_sem, h, Lnk.row]) | (apply kG; (simp +decide only [go_sem, h, Lnk.row]; rfl); all_goals (intro hcnd; first | (exact absurd hcnd (by decide)) | skip)) | ((first | refine kH ?_ ?_ | refine kI ?_ ?_) <;> (intro hcnd; simp +decide only [go_sem, hcnd, h, Lnk.row]))))
    simp [okRef, h]
  · (repeat' (first | refine kA ?_ | refine kB ?_ | ((first | (refine kC (N := 11) rfl (by kernel_rfl) ?_) | refine kD ?_ | refine kE ?_ | (refine kN (ident_D r.kind) (kP rfl) ?_) | (refine kO (ident_D r.kind) (kP rfl) ?_) | (refine kN (ident_D r.tgt) (kP rfl) ?_) | (refine kO (ident_D r.tgt) (kP rfl) ?_) | refine kF ?_); simp +decide only [go_sem, h, Lnk.row]) | (apply kG; (simp +decide only [go_sem, h, Lnk.row]; rfl); all_goals (intro hcnd; first | (exact absurd hcnd (by decide)) | skip)) | ((first | refine kH ?_ ?_ | refine kI ?_ ?_) <;> (intro hcnd; simp +decide only [go_sem, hcnd, h, Lnk.row]))))
    simp [okRef, h]

set_option maxRecDepth 10000 in
theorem rRef_D (r : Lnk) : DCalls Tryz.prog 102 [.agg r.row] (dv (lb (okRef r))) := by
  refine dcalls (N := 11) (rs := [.tmp 2]) (by kernel_rfl) Tryz.func102 rfl rfl rfl (by simp) ?_
  cases h : ident r.kind
  · (repeat' (first | refine kA ?_ | refine kB ?_ | ((first | (refine kC (N := 11) rfl (by kernel_rfl) ?_) | refine kD ?_ | refine kE ?_ | (refine kN (rIdent_D r.kind) (kP rfl) ?_) | (refine kO (rIdent_D r.kind) (kP rfl) ?_) | refine kF ?_); simp +decide only [go_sem, h, Lnk.row]) | (apply kG; (simp +decide only [go_sem, h, Lnk.row]; rfl); all_goals (intro hcnd; first | (exact absurd hcnd (by decide)) | skip)) | ((first | refine kH ?_ ?_ | refine kI ?_ ?_) <;> (intro hcnd; simp +decide only [go_sem, hcnd, h, Lnk.row]))))
    simp [okRef, h]
  · (repeat' (first | refine kA ?_ | refine kB ?_ | ((first | (refine kC (N := 11) rfl (by kernel_rfl) ?_) | refine kD ?_ | refine kE ?_ | (refine kN (rIdent_D r.kind) (kP rfl) ?_) | (refine kO (rIdent_D r.kind) (kP rfl) ?_) | (refine kN (rIdent_D r.tgt) (kP rfl) ?_) | (refine kO (rIdent_D r.tgt) (kP rfl) ?_) | refine kF ?_); simp +decide only [go_sem, h, Lnk.row]) | (apply kG; (simp +decide only [go_sem, h, Lnk.row]; rfl); all_goals (intro hcnd; first | (exact absurd hcnd (by decide)) | skip)) | ((first | refine kH ?_ ?_ | refine kI ?_ ?_) <;> (intro hcnd; simp +decide only [go_sem, hcnd, h, Lnk.row]))))
    simp [okRef, h]

def lessL (a b : Lnk) : Bool := decide (a.kind < b.kind) || (a.kind == b.kind && decide (a.tgt < b.tgt))

set_option maxRecDepth 10000 in
theorem prec_D (a b : Lnk) : DCalls Tryz.prog 103 [.agg a.row, .agg b.row] (dv (lb (lessL a b))) := by
  refine dcalls (N := 24) (rs := [.tmp 4]) (by kernel_rfl) Tryz.func103 rfl rfl rfl (by simp) ?_
  (repeat' (first | refine kA ?_ | refine kB ?_ | ((first | (refine kC (N := 24) rfl (by kernel_rfl) ?_) | refine kD ?_ | refine kE ?_ | refine kF ?_); simp +decide only [go_sem, Lnk.row]) | (apply kG; (simp +decide only [go_sem, Lnk.row]; rfl); all_goals (intro hcnd; first | (exact absurd hcnd (by decide)) | skip)) | ((first | refine kH ?_ ?_ | refine kI ?_ ?_) <;> (intro hcnd; simp +decide only [go_sem, hcnd, Lnk.row]))))
  all_goals simp_all [lessL]

def segOk (g : List Phon) (n : Int) : Bool := decide (1 ≤ n) && decide (n ≤ (g.length : Int))

set_option maxRecDepth 10000 in
theorem seg_D (g : List Phon) (n : Int) : DCalls Tryz.prog 112 [.agg (invRow g), dv (li n)] (dv (lb (segOk g n))) := by
  refine dcalls (N := 14) (rs := [.tmp 4]) (by kernel_rfl) Tryz.func112 rfl rfl rfl (by simp) ?_
  (repeat' (first | refine kA ?_ | refine kB ?_ | ((first | (refine kC (N := 14) rfl (by kernel_rfl) ?_) | refine kD ?_ | refine kE ?_ | refine kF ?_); simp +decide only [go_sem, invRow]) | (apply kG; (simp +decide only [go_sem, invRow]; rfl); all_goals (intro hcnd; first | (exact absurd hcnd (by decide)) | skip)) | ((first | refine kH ?_ ?_ | refine kI ?_ ?_) <;> (intro hcnd; simp +decide only [go_sem, hcnd, invRow]))))
  all_goals (simp_all [segOk] <;> omega)

set_option maxRecDepth 10000 in
theorem rIs_D (g : List Phon) (n : Int) : DCalls Tryz.prog 117 [.agg (invRow g), dv (li n)] (dv (lb (segOk g n))) := by
  refine dcalls (N := 14) (rs := [.tmp 4]) (by kernel_rfl) Tryz.func117 rfl rfl rfl (by simp) ?_
  (repeat' (first | refine kA ?_ | refine kB ?_ | ((first | (refine kC (N := 14) rfl (by kernel_rfl) ?_) | refine kD ?_ | refine kE ?_ | refine kF ?_); simp +decide only [go_sem, invRow]) | (apply kG; (simp +decide only [go_sem, invRow]; rfl); all_goals (intro hcnd; first | (exact absurd hcnd (by decide)) | skip)) | ((first | refine kH ?_ ?_ | refine kI ?_ ?_) <;> (intro hcnd; simp +decide only [go_sem, hcnd, invRow]))))
  all_goals (simp_all [segOk] <;> omega)

def cmpI (a b : Int) : Int := if a < b then -1 else if b < a then 1 else 0

set_option maxRecDepth 10000 in
theorem isNaN_D (a : Int) : DCalls Tryz.prog 116 [dv (li a)] (dv (lb false)) := by
  refine dcalls (N := 6) (rs := [.tmp 2]) (by kernel_rfl) Tryz.func116 rfl rfl rfl (by simp) ?_
  have h : (a != a) = false := by simp
  (repeat' (first | refine kA ?_ | refine kB ?_ | ((first | (refine kC (N := 6) rfl (by kernel_rfl) ?_) | refine kD ?_ | refine kE ?_ | refine kF ?_); simp +decide only [go_sem, h]) | (apply kG; (simp +decide only [go_sem, h]; rfl); all_goals (intro hcnd; first | (exact absurd hcnd (by decide)) | skip))))

set_option maxRecDepth 10000 in
theorem cmp_D (a b : Int) : DCalls Tryz.prog 96 [dv (li a), dv (li b)] (dv (li (cmpI a b))) := by
  refine dcalls (N := 20) (rs := [.tmp 4]) (by kernel_rfl) Tryz.func96 rfl rfl rfl (by simp) ?_
  (repeat' (first | refine kA ?_ | refine kB ?_ | ((first | (refine kC (N := 20) rfl (by kernel_rfl) ?_) | refine kD ?_ | refine kE ?_ | (refine kN (isNaN_D a) (kP rfl) ?_) | (refine kO (isNaN_D a) (kP rfl) ?_) | (refine kN (isNaN_D b) (kP rfl) ?_) | (refine kO (isNaN_D b) (kP rfl) ?_) | refine kF ?_); simp +decide only [go_sem]) | (apply kG; (simp +decide only [go_sem]; rfl); all_goals (intro hcnd; first | (exact absurd hcnd (by decide)) | skip))))
  all_goals first | (simp_all [cmpI]; done) | (simp only [cmpI]; simp at *; split <;> first | rfl | omega | (split <;> first | rfl | omega))

def orI : List Int → Int
  | [] => 0
  | x :: l => if x = 0 then orI l else x
end Go.Proofs.YtdmmhemfnnbddaaGreatDoor

/- Strings: the reference's characters. -/
namespace Go.Proofs.YtdmmhemfnnbddaaGreatDoor
open Go.Dl
open Go.Dl renaming dw_seq → kA, dw_block → kB, dw_reg → kC, dw_skip → kD, dw_exit → kE, dw_ret → kF, dw_cond → kG, guardC_f → kH, guardC_t → kI, dw_drw → kJ, dw_weaken → kK, sub_kn → kL, sub_ml → kM
open Go.Dl.CallC renaming mk → kN, light → kO
open Go.Dl.LeL renaming of_eq → kP
attribute [local irreducible] DW DCalls ECalls wk IW

set_option maxRecDepth 10000 in
theorem scalar_D (p : Nat) : DCalls Tryz.prog 125 [dv (li p)] (dv (lb (decide (scalN p)))) := by
  refine dcalls (N := 17) (rs := [.tmp 2]) (by kernel_rfl) Tryz.func125 rfl rfl rfl (by simp) ?_
  have t0 : decide ((0 : Int) ≤ (p : Int)) = true := by simp
  rcases Bool.eq_false_or_eq_true (decide ((p : Int) ≤ 1114111)) with t1 | t1
  rotate_left
  · (repeat' (first | refine kA ?_ | refine kB ?_ | ((first | (refine kC (N := 17) rfl (by kernel_rfl) ?_) | refine kD ?_ | refine kE ?_ | refine kF ?_); simp +decide only [go_sem, t0, t1]) | (apply kG; (simp +decide only [go_sem, t0, t1]; rfl); all_goals (intro hcnd; first | (exact absurd hcnd (by decide)) | skip)) | ((first | refine kH ?_ ?_ | refine kI ?_ ?_) <;> (intro hcnd; simp +decide only [go_sem, hcnd, t0, t1]))))
    have : ¬ scalN p := fun h => by simp at t1; have := h.1; omega
    simp [this]
  rcases Bool.eq_false_or_eq_true (decide ((p : Int) < 55296)) with t2 | t2
  · (repeat' (first | refine kA ?_ | refine kB ?_ | ((first | (refine kC (N := 17) rfl (by kernel_rfl) ?_) | refine kD ?_ | refine kE ?_ | refine kF ?_); simp +decide only [go_sem, t0, t1, t2]) | (apply kG; (simp +decide only [go_sem, t0, t1, t2]; rfl); all_goals (intro hcnd; first | (exact absurd hcnd (by decide)) | skip)) | ((first | refine kH ?_ ?_ | refine kI ?_ ?_) <;> (intro hcnd; simp +decide only [go_sem, hcnd, t0, t1, t2]))))
    have : scalN p := ⟨by simp at t1; omega, by simp at t2; omega⟩
    simp [this]
  rcases Bool.eq_false_or_eq_true (decide ((57343 : Int) < (p : Int))) with t3 | t3
  · (repeat' (first | refine kA ?_ | refine kB ?_ | ((first | (refine kC (N := 17) rfl (by kernel_rfl) ?_) | refine kD ?_ | refine kE ?_ | refine kF ?_); simp +decide only [go_sem, t0, t1, t2, t3]) | (apply kG; (simp +decide only [go_sem, t0, t1, t2, t3]; rfl); all_goals (intro hcnd; first | (exact absurd hcnd (by decide)) | skip)) | ((first | refine kH ?_ ?_ | refine kI ?_ ?_) <;> (intro hcnd; simp +decide only [go_sem, hcnd, t0, t1, t2, t3]))))
    have : scalN p := ⟨by simp at t1; omega, by simp at t3; omega⟩
    simp [this]
  · (repeat' (first | refine kA ?_ | refine kB ?_ | ((first | (refine kC (N := 17) rfl (by kernel_rfl) ?_) | refine kD ?_ | refine kE ?_ | refine kF ?_); simp +decide only [go_sem, t0, t1, t2, t3]) | (apply kG; (simp +decide only [go_sem, t0, t1, t2, t3]; rfl); all_goals (intro hcnd; first | (exact absurd hcnd (by decide)) | skip)) | ((first | refine kH ?_ ?_ | refine kI ?_ ?_) <;> (intro hcnd; simp +decide only [go_sem, hcnd, t0, t1, t2, t3]))))
    have : ¬ scalN p := fun h => by simp at t2 t3; have := h.2; omega
    simp [this]

def encB (p : Nat) : ByteArray := ⟨((encN p).map UInt8.ofNat).toArray⟩
theorem wrap_u8 {x : Int} (h : 0 ≤ x) (h' : x < 256) : IntKind.u8.wrap x = x := by
  have : IntKind.u8.wrap x = x % 256 := by simp [IntKind.wrap, IntKind.bits, IntKind.signed]
  rw [this]; omega

theorem tdiv_nat (p k : Nat) : ((p : Int).tdiv (k : Int)) = ((p / k : Nat) : Int) := by
  rw [Int.tdiv_eq_ediv_of_nonneg (by omega)]; rfl
theorem tmod_nat (p k : Nat) : ((p : Int).tmod (k : Int)) = ((p % k : Nat) : Int) := by
  rw [Int.tmod_eq_emod_of_nonneg (by omega)]; rfl
theorem wrapN {a x : Nat} {y : Int} (h : y = (x : Int)) (hx : x < 9223372036854775808) : IntKind.i64.wrap ((a : Int) + y) = IntKind.i64.wrap (((a + x : Nat)) : Int) := by
  rw [h]; rfl
theorem wrap8 {a x : Nat} (h : a + x < 256) : IntKind.u8.wrap (IntKind.i64.wrap ((a : Int) + (x : Int))) = ((a + x : Nat) : Int) := by
  rw [wrap_i64 (by omega) (by omega), wrap_u8 (by omega) (by omega)]; rfl
theorem wrap64n {x : Nat} (h : x < 9223372036854775808) : IntKind.i64.wrap (x : Int) = (x : Int) := wrap_i64 (by omega) (by omega)

set_option maxRecDepth 10000 in
set_option maxHeartbeats 2000000 in
theorem encoded_D (p : Nat) (hp : p ≤ 1114111) : DCalls Tryz.prog 126 [dv (li p)] (dv (ls (encB p))) := by
  have d1 : (p : Int).tdiv 64 = ((p / 64 : Nat) : Int) := tdiv_nat p 64
  have d2 : (p : Int).tdiv 4096 = ((p / 4096 : Nat) : Int) := tdiv_nat p 4096
  have d3 : (p : Int).tdiv 262144 = ((p / 262144 : Nat) : Int) := tdiv_nat p 262144
  have m0 : (p : Int).tmod 64 = ((p % 64 : Nat) : Int) := tmod_nat p 64
  have m1 : ((p / 64 : Nat) : Int).tmod 64 = ((p / 64 % 64 : Nat) : Int) := tmod_nat (p / 64) 64
  have m2 : ((p / 4096 : Nat) : Int).tmod 64 = ((p / 4096 % 64 : Nat) : Int) := tmod_nat (p / 4096) 64
  have q1 : IntKind.i64.wrap ((p / 64 : Nat) : Int) = ((p / 64 : Nat) : Int) := wrap64n (by omega)
  have q2 : IntKind.i64.wrap ((p / 4096 : Nat) : Int) = ((p / 4096 : Nat) : Int) := wrap64n (by omega)
  have q3 : IntKind.i64.wrap ((p / 262144 : Nat) : Int) = ((p / 262144 : Nat) : Int) := wrap64n (by omega)
  have w0 : IntKind.u8.wrap (IntKind.i64.wrap (128 + ((p % 64 : Nat) : Int))) = ((128 + p % 64 : Nat) : Int) := wrap8 (a := 128) (by omega)
  have w1 : IntKind.u8.wrap (IntKind.i64.wrap (128 + ((p / 64 % 64 : Nat) : Int))) = ((128 + p / 64 % 64 : Nat) : Int) := wrap8 (a := 128) (by omega)
  have w2 : IntKind.u8.wrap (IntKind.i64.wrap (128 + ((p / 4096 % 64 : Nat) : Int))) = ((128 + p / 4096 % 64 : Nat) : Int) := wrap8 (a := 128) (by omega)
  refine dcalls (N := 61) (rs := [.tmp 2]) (by kernel_rfl) Tryz.func126 rfl rfl rfl (by simp) ?_
  by_cases h1 : p < 128
  · have t1 : decide ((p : Int) < 128) = true := by simp; omega
    have w3 : IntKind.u8.wrap (p : Int) = p := wrap_u8 (by omega) (by omega)
    (repeat' (first | refine kA ?_ | refine kB ?_ | ((first | (refine kC (N := 61) rfl (by kernel_rfl) ?_) | refine kD ?_ | refine kE ?_ | refine kF ?_); simp +decide only [go_sem, t1, w3]) | (apply kG; (simp +decide only [go_sem, t1, w3]; rfl); all_goals (intro hcnd; first | (exact absurd hcnd (by decide)) | skip))))
    simp [encB, encN, h1]
  · have t1 : decide ((p : Int) < 128) = false := by simp; omega
    by_cases h2 : p < 2048
    · have t2 : decide ((p : Int) < 2048) = true := by simp; omega
      have w3 : IntKind.u8.wrap (IntKind.i64.wrap (192 + ((p / 64 : Nat) : Int))) = ((192 + p / 64 : Nat) : Int) := wrap8 (a := 192) (by omega)
      (repeat' (first | refine kA ?_ | refine kB ?_ | ((first | (refine kC (N := 61) rfl (by kernel_rfl) ?_) | refine kD ?_ | refine kE ?_ | refine kF ?_); simp +decide only [go_sem, t1, t2, d1, q1, m0, w0, w3]) | (apply kG; (simp +decide only [go_sem, t1, t2, d1, q1, m0, w0, w3]; rfl); all_goals (intro hcnd; first | (exact absurd hcnd (by decide)) | skip))))
      simp only [encB, encN, h1, h2, if_false, if_true, List.map_cons, List.map_nil, Int.toNat_natCast]
    · have t2 : decide ((p : Int) < 2048) = false := by simp; omega
      by_cases h3 : p < 65536
      · have t3 : decide ((p : Int) < 65536) = true := by simp; omega
        have w3 : IntKind.u8.wrap (IntKind.i64.wrap (224 + ((p / 4096 : Nat) : Int))) = ((224 + p / 4096 : Nat) : Int) := wrap8 (a := 224) (by omega)
        (repeat' (first | refine kA ?_ | refine kB ?_ | ((first | (refine kC (N := 61) rfl (by kernel_rfl) ?_) | refine kD ?_ | refine kE ?_ | refine kF ?_); simp +decide only [go_sem, t1, t2, t3, d1, d2, q1, q2, m0, m1, w0, w1, w3]) | (apply kG; (simp +decide only [go_sem, t1, t2, t3, d1, d2, q1, q2, m0, m1, w0, w1, w3]; rfl); all_goals (intro hcnd; first | (exact absurd hcnd (by decide)) | skip))))
        simp only [encB, encN, h1, h2, h3, if_false, if_true, List.map_cons, List.map_nil, Int.toNat_natCast]
      · have t3 : decide ((p : Int) < 65536) = false := by simp; omega
        have w3 : IntKind.u8.wrap (IntKind.i64.wrap (240 + ((p / 262144 : Nat) : Int))) = ((240 + p / 262144 : Nat) : Int) := wrap8 (a := 240) (by omega)
        (repeat' (first | refine kA ?_ | refine kB ?_ | ((first | (refine kC (N := 61) rfl (by kernel_rfl) ?_) | refine kD ?_ | refine kE ?_ | refine kF ?_); simp +decide only [go_sem, t1, t2, t3, d1, d2, d3, q1, q2, q3, m0, m1, m2, w0, w1, w2, w3]) | (apply kG; (simp +decide only [go_sem, t1, t2, t3, d1, d2, d3, q1, q2, q3, m0, m1, m2, w0, w1, w2, w3]; rfl); all_goals (intro hcnd; first | (exact absurd hcnd (by decide)) | skip))))
        simp only [encB, encN, h1, h2, h3, if_false, if_true, List.map_cons, List.map_nil, Int.toNat_natCast]
end Go.Proofs.YtdmmhemfnnbddaaGreatDoor

namespace Go.Proofs.YtdmmhemfnnbddaaGreatDoor
abbrev kpm0 : List (Nat × Go.Dl.Mode) := [(0, .light), (1, .step), (2, .light), (3, .light), (4, .light), (5, .light), (6, .light), (7, .light), (8, .light), (9, .light), (10, .light), (11, .light), (12, .light), (13, .light)]
end Go.Proofs.YtdmmhemfnnbddaaGreatDoor
/- Strings: the reference's first character of a string. -/
namespace Go.Proofs.YtdmmhemfnnbddaaGreatDoor
open Go.Dl
open Go.Dl renaming dw_seq → kA, dw_block → kB, dw_reg → kC, dw_skip → kD, dw_exit → kE, dw_ret → kF, dw_cond → kG, guardC_f → kH, guardC_t → kI, dw_drw → kJ, dw_weaken → kK, sub_kn → kL, sub_ml → kM
open Go.Dl.CallC renaming mk → kN, light → kO
open Go.Dl.LeL renaming of_eq → kP
attribute [local irreducible] DW DCalls ECalls wk IW

def firstR (s : ByteArray) (a : Nat) : Int × Int :=
  match fstL (s.data.toList.drop a) with
  | some (p, k) => (p, k)
  | none => (-1, 0)

set_option maxRecDepth 10000 in
set_option maxHeartbeats 4000000 in
theorem first_D (s : ByteArray) (a : Nat) (ha : a < s.size) (hs : s.size ≤ 1048576) : DCalls Tryz.prog 109 [dv (ls s), dv (li a)] (.tup [dv (li (firstR s a).1), dv (li (firstR s a).2)]) := by
  obtain ⟨bs, hbs⟩ : ∃ bs, bs = s.data.toList.drop a := ⟨_, rfl⟩
  have hlen : bs.length + a = s.size := by rw [hbs]; simp; omega
  have hx0 : s.data.toList[a]? = some (bs.getD 0 0) := by
    rw [hbs, List.getD_eq_getElem?_getD, List.getElem?_drop, Nat.add_zero]
    have : a < s.data.toList.length := by simpa using ha
    rw [List.getElem?_eq_getElem this]; rfl
  have hb0 : bAt bs 0 < 256 := UInt8.toNat_lt _
  have hw0 : IntKind.i64.wrap (((bs.getD 0 0).toNat : Nat) : Int) = ((bAt bs 0 : Nat) : Int) := wrap64n (by have := UInt8.toNat_lt (bs.getD 0 0); omega)
  obtain ⟨b0, hbb⟩ : ∃ b0, b0 = bAt bs 0 := ⟨_, rfl⟩
  rw [← hbb] at hw0 hb0
  have hbl := base_le b0
  have hmax : maxLen = 9223372036854775807 := rfl
  refine dcalls (N := 65) (rs := [.tmp 4, .tmp 5]) (by kernel_rfl) Tryz.func109 rfl rfl rfl (by simp) ?_
  refine kA ?_
  refine kC (N := 65) rfl (by kernel_rfl) ?_; simp +decide only [go_sem]
  refine kA ?_
  refine kC (N := 65) rfl (by kernel_rfl) ?_; simp +decide only [go_sem, hx0, hw0]
  refine kA ?_
  refine kC (N := 65) rfl (by kernel_rfl) ?_; simp +decide only [go_sem, hx0, hw0]
  refine kA ?_
  refine dw_afterN (fun _ : Unit => kn 65 [(0, dv (ls s)), (1, dv (li a)), (6, dv (li (baseN b0))), (7, dv (li (leadN b0)))] noMem) (fun _ => True) ?_ ?_
  · rcases lead_cases b0 with ⟨e, c⟩ | ⟨e, c, c'⟩ | ⟨e, c, c'⟩ | ⟨e, c⟩
    · have t1 : decide ((240 : Int) ≤ (b0 : Int)) = false := by simp; omega
      have t2 : decide ((224 : Int) ≤ (b0 : Int)) = false := by simp; omega
      have t3 : decide ((192 : Int) ≤ (b0 : Int)) = false := by simp; omega
      have hb : baseN b0 = b0 := by unfold baseN; (repeat' split) <;> omega
      (repeat' (first | refine kA ?_ | refine kB ?_ | ((first | (refine kC (N := 65) rfl (by kernel_rfl) ?_) | (apply kJ (id := 18) (N := 65) kpm0; kernel_rfl; rfl; kernel_rfl; (repeat (first | exact Picks.nil | (apply Picks.cons; rfl)))) | refine kD ?_ | refine kE ?_ | refine kF ?_); simp +decide only [go_sem, t1, t2, t3]) | (apply kG; (simp +decide only [go_sem, t1, t2, t3]; rfl); all_goals (intro hcnd; first | (exact absurd hcnd (by decide)) | skip)) | ((first | refine kH ?_ ?_ | refine kI ?_ ?_) <;> (intro hcnd; simp +decide only [go_sem, hcnd, t1, t2, t3]))))
      exact ⟨(), kL rfl (by simp +decide only [go_sem, e, hb]) (by simp [noMem])⟩
    · have t1 : decide ((240 : Int) ≤ (b0 : Int)) = false := by simp; omega
      have t2 : decide ((224 : Int) ≤ (b0 : Int)) = false := by simp; omega
      have t3 : decide ((192 : Int) ≤ (b0 : Int)) = true := by simp; omega
      have hb : IntKind.i64.wrap ((b0 : Int) - 192) = (baseN b0 : Int) := by
        have : baseN b0 = b0 - 192 := by unfold baseN; (repeat' split) <;> omega
        rw [this, wrap_i64 (by omega) (by omega)]; omega
      (repeat' (first | refine kA ?_ | refine kB ?_ | ((first | (refine kC (N := 65) rfl (by kernel_rfl) ?_) | (apply kJ (id := 18) (N := 65) kpm0; kernel_rfl; rfl; kernel_rfl; (repeat (first | exact Picks.nil | (apply Picks.cons; rfl)))) | refine kD ?_ | refine kE ?_ | refine kF ?_); simp +decide only [go_sem, t1, t2, t3, hb]) | (apply kG; (simp +decide only [go_sem, t1, t2, t3, hb]; rfl); all_goals (intro hcnd; first | (exact absurd hcnd (by decide)) | skip)) | ((first | refine kH ?_ ?_ | refine kI ?_ ?_) <;> (intro hcnd; simp +decide only [go_sem, hcnd, t1, t2, t3, hb]))))
      exact ⟨(), kL rfl (by simp +decide only [go_sem, e]) (by simp [noMem])⟩
    · have t1 : decide ((240 : Int) ≤ (b0 : Int)) = false := by simp; omega
      have t2 : decide ((224 : Int) ≤ (b0 : Int)) = true := by simp; omega
      have hb : IntKind.i64.wrap ((b0 : Int) - 224) = (baseN b0 : Int) := by
        have : baseN b0 = b0 - 224 := by unfold baseN; (repeat' split) <;> omega
        rw [this, wrap_i64 (by omega) (by omega)]; omega
      (repeat' (first | refine kA ?_ | refine kB ?_ | ((first | (refine kC (N := 65) rfl (by kernel_rfl) ?_) | (apply kJ (id := 18) (N := 65) kpm0; kernel_rfl; rfl; kernel_rfl; (repeat (first | exact Picks.nil | (apply Picks.cons; rfl)))) | refine kD ?_ | refine kE ?_ | refine kF ?_); simp +decide only [go_sem, t1, t2, hb]) | (apply kG; (simp +decide only [go_sem, t1, t2, hb]; rfl); all_goals (intro hcnd; first | (exact absurd hcnd (by decide)) | skip)) | ((first | refine kH ?_ ?_ | refine kI ?_ ?_) <;> (intro hcnd; simp +decide only [go_sem, hcnd, t1, t2, hb]))))
      exact ⟨(), kL rfl (by simp +decide only [go_sem, e]) (by simp [noMem])⟩
    · have t1 : decide ((240 : Int) ≤ (b0 : Int)) = true := by simp; omega
      have hb : IntKind.i64.wrap ((b0 : Int) - 240) = (baseN b0 : Int) := by
        have : baseN b0 = b0 - 240 := by unfold baseN; (repeat' split) <;> omega
        rw [this, wrap_i64 (by omega) (by omega)]; omega
      (repeat' (first | refine kA ?_ | refine kB ?_ | ((first | (refine kC (N := 65) rfl (by kernel_rfl) ?_) | (apply kJ (id := 18) (N := 65) kpm0; kernel_rfl; rfl; kernel_rfl; (repeat (first | exact Picks.nil | (apply Picks.cons; rfl)))) | refine kD ?_ | refine kE ?_ | refine kF ?_); simp +decide only [go_sem, t1, hb]) | (apply kG; (simp +decide only [go_sem, t1, hb]; rfl); all_goals (intro hcnd; first | (exact absurd hcnd (by decide)) | skip)) | ((first | refine kH ?_ ?_ | refine kI ?_ ?_) <;> (intro hcnd; simp +decide only [go_sem, hcnd, t1, hb]))))
      exact ⟨(), kL rfl (by simp +decide only [go_sem, e]) (by simp [noMem])⟩
  intro _ _
  have hl14 : 1 ≤ leadN b0 ∧ leadN b0 ≤ 4 := by rcases lead_cases b0 with h | h | h | h <;> omega
  have hw1 : IntKind.i64.wrap ((a : Int) + (leadN b0 : Int)) = ((a + leadN b0 : Nat) : Int) := by rw [wrap_i64 (by omega) (by omega)]; rfl
  by_cases hk : leadN b0 ≤ bs.length
  rotate_left
  · have t1 : decide ((s.size : Int) < ((a + leadN b0 : Nat) : Int)) = true := by simp; omega
    (repeat' (first | refine kA ?_ | refine kB ?_ | ((first | (refine kC (N := 65) rfl (by kernel_rfl) ?_) | (apply kJ (id := 18) (N := 65) kpm0; kernel_rfl; rfl; kernel_rfl; (repeat (first | exact Picks.nil | (apply Picks.cons; rfl)))) | refine kD ?_ | refine kE ?_ | refine kF ?_); simp +decide only [go_sem, hw1, t1]) | (apply kG; (simp +decide only [go_sem, hw1, t1]; rfl); all_goals (intro hcnd; first | (exact absurd hcnd (by decide)) | skip)) | ((first | refine kH ?_ ?_ | refine kI ?_ ?_) <;> (intro hcnd; simp +decide only [go_sem, hcnd, hw1, t1]))))
    have : firstR s a = (-1, 0) := by unfold firstR; rw [← hbs, fstL_short (by rw [← hbb]; omega)]
    rw [this]
  have t1 : decide ((s.size : Int) < ((a + leadN b0 : Nat) : Int)) = false := by simp; omega
  have hk' := hk
  rw [hbb] at hk'
  have htl := tail_len hk'
  rw [← hbb] at htl
  have hpf : ∀ k, k ≤ (tailL bs).length → pf (baseN b0) ((tailL bs).take k) < 268435456 := fun k hk => by
    have h1 := pf_lt ((tailL bs).take k) (baseN b0)
    have h2 : ((tailL bs).take k).length ≤ 3 := by rw [List.length_take]; omega
    have h3 : 64 ^ ((tailL bs).take k).length ≤ 64 ^ 3 := Nat.pow_le_pow_right (by omega) h2
    have h4 : (baseN b0 + 1) * 64 ^ ((tailL bs).take k).length ≤ 257 * 64 ^ 3 := Nat.mul_le_mul (by omega) h3
    omega
  (repeat' (first | refine kA ?_ | refine kB ?_ | ((first | (refine kC (N := 65) rfl (by kernel_rfl) ?_) | (apply kJ (id := 18) (N := 65) kpm0; kernel_rfl; rfl; kernel_rfl; (repeat (first | exact Picks.nil | (apply Picks.cons; rfl)))) | refine kD ?_ | refine kE ?_); simp +decide only [go_sem, hw1, t1]) | (apply kG; (simp +decide only [go_sem, hw1, t1]; rfl); all_goals (intro hcnd; first | (exact absurd hcnd (by decide)) | skip)) | ((first | refine kH ?_ ?_ | refine kI ?_ ?_) <;> (intro hcnd; simp +decide only [go_sem, hcnd, hw1, t1]))))
  refine dw_rng0 (tailL bs) (fun k => kn 65 [(0, dv (ls s)), (1, dv (li a)), (6, dv (li (pf (baseN b0) ((tailL bs).take k)))), (7, dv (li (leadN b0))), (8, dv (li ((k + 1 : Nat) : Int)))] noMem) (by omega) (kL rfl (by simp +decide only [go_sem, List.take_zero, pf, List.foldl_nil]) (by simp [noMem])) ?_ ?_
  · intro k b hb hkl hm htk _ _
    have u1 : decide (((k + 1 : Nat) : Int) < (leadN b0 : Int)) = true := by simp; omega
    have hp := hpf k (by omega)
    obtain ⟨q, hq⟩ : ∃ q, q = pf (baseN b0) ((tailL bs).take k) := ⟨_, rfl⟩
    have hps : pf (baseN b0) ((tailL bs).take (k + 1)) = q * 64 + b.toNat % 64 := by rw [htk, pf_snoc, hq]
    rw [← hq] at hp ⊢
    rw [hps]
    have hbt := UInt8.toNat_lt b
    have u2 : IntKind.i64.wrap ((q : Int) * 64) = ((q * 64 : Nat) : Int) := by rw [wrap_i64 (by omega) (by omega)]; omega
    have u3 : IntKind.i64.wrap ((a : Int) + ((k + 1 : Nat) : Int)) = ((a + (k + 1) : Nat) : Int) := by rw [wrap_i64 (by omega) (by omega)]; rfl
    have u4 : s.data.toList[a + (k + 1)]? = some b := by
      have := tail_at hb
      rw [hbs, List.getElem?_drop] at this; exact this
    have u5 : IntKind.i64.wrap ((b.toNat : Nat) : Int) = ((b.toNat : Nat) : Int) := wrap64n (by omega)
    have u6 : ((b.toNat : Nat) : Int).tmod 64 = ((b.toNat % 64 : Nat) : Int) := tmod_nat b.toNat 64
    have u7 : IntKind.i64.wrap (((q * 64 : Nat) : Int) + ((b.toNat % 64 : Nat) : Int)) = ((q * 64 + b.toNat % 64 : Nat) : Int) := by rw [wrap_i64 (by omega) (by omega)]; omega
    have u8 : IntKind.i64.wrap (((k + 1 : Nat) : Int) + 1) = ((k + 1 + 1 : Nat) : Int) := by rw [wrap_i64 (by omega) (by omega)]; rfl
    (repeat' (first | refine kA ?_ | refine kB ?_ | ((first | (refine kC (N := 65) rfl (by kernel_rfl) ?_) | (apply kJ (id := 18) (N := 65) kpm0; kernel_rfl; rfl; kernel_rfl; (repeat (first | exact Picks.nil | (apply Picks.cons; rfl)))) | refine kD ?_ | refine kE ?_ | refine kF ?_); simp +decide only [go_sem, u1, u2, u3, u4, u5, u6, u7, u8, Int.toNat_natCast]) | (apply kG; (simp +decide only [go_sem, u1, u2, u3, u4, u5, u6, u7, u8, Int.toNat_natCast]; rfl); all_goals (intro hcnd; first | (exact absurd hcnd (by decide)) | skip)) | ((first | refine kH ?_ ?_ | refine kI ?_ ?_) <;> (intro hcnd; simp +decide only [go_sem, hcnd, u1, u2, u3, u4, u5, u6, u7, u8, Int.toNat_natCast]))))
    exact kL rfl (by simp +decide only [go_sem]) (by simp [noMem])
  · intro _
    have u1 : decide ((((tailL bs).length + 1 : Nat) : Int) < (leadN b0 : Int)) = false := by simp; omega
    rw [List.take_length]
    have hp := hpf (tailL bs).length (Nat.le_refl _)
    rw [List.take_length] at hp
    have hf := fstL_eq hk'
    rw [← hbb] at hf
    obtain ⟨p, hpq⟩ : ∃ p, p = pf (baseN b0) (tailL bs) := ⟨_, rfl⟩
    rw [← hpq] at hf hp ⊢
    have hS := scalar_D p
    by_cases hsc : scalN p
    rotate_left
    · rw [decide_eq_false hsc] at hS
      rw [if_neg (fun h => hsc h.1)] at hf
      (repeat' (first | refine kA ?_ | refine kB ?_ | ((first | (refine kC (N := 65) rfl (by kernel_rfl) ?_) | (apply kJ (id := 18) (N := 65) kpm0; kernel_rfl; rfl; kernel_rfl; (repeat (first | exact Picks.nil | (apply Picks.cons; rfl)))) | refine kD ?_ | refine kE ?_ | (refine kN (hS) (kP rfl) ?_) | (refine kO (hS) (kP rfl) ?_) | refine kF ?_); simp +decide only [go_sem, u1]) | (apply kG; (simp +decide only [go_sem, u1]; rfl); all_goals (intro hcnd; first | (exact absurd hcnd (by decide)) | skip)) | ((first | refine kH ?_ ?_ | refine kI ?_ ?_) <;> (intro hcnd; simp +decide only [go_sem, hcnd, u1]))))
      have : firstR s a = (-1, 0) := by unfold firstR; rw [← hbs, hf]
      rw [this]
    rw [decide_eq_true hsc] at hS
    have hE := encoded_D p hsc.1
    have hsl : (s.extract a (a + leadN b0)).data.toList = bs.take (leadN b0) := by
      rw [hbs]
      simp [ByteArray.data_extract, List.drop_take]
    have u2 : (a ≤ a + leadN b0 ∧ a + leadN b0 ≤ s.size) = True := eq_true ⟨by omega, by omega⟩
    have hext : encB p = s.extract a (a + leadN b0) ↔ (encN p).map UInt8.ofNat = bs.take (leadN b0) := by
      rw [← hsl]
      constructor
      · intro h; rw [← h]; simp [encB]
      · intro h
        have : (encB p).data = (s.extract a (a + leadN b0)).data := by
          apply Array.ext'
          rw [← h]; simp [encB]
        cases h1 : encB p; cases h2 : s.extract a (a + leadN b0)
        rw [h1, h2] at this; simp at this; rw [this]
    by_cases he : encB p = s.extract a (a + leadN b0)
    · have u3 : (encB p == s.extract a (a + leadN b0)) = true := (bytes_eq _ _).2 he
      rw [if_pos ⟨hsc, hext.1 he⟩] at hf
      have : firstR s a = ((p : Int), ((leadN b0 : Nat) : Int)) := by unfold firstR; rw [← hbs, hf]
      rw [this]
      (repeat' (first | refine kA ?_ | refine kB ?_ | ((first | (refine kC (N := 65) rfl (by kernel_rfl) ?_) | (apply kJ (id := 18) (N := 65) kpm0; kernel_rfl; rfl; kernel_rfl; (repeat (first | exact Picks.nil | (apply Picks.cons; rfl)))) | refine kD ?_ | refine kE ?_ | (refine kN (hS) (kP rfl) ?_) | (refine kO (hS) (kP rfl) ?_) | (refine kN (hE) (kP rfl) ?_) | (refine kO (hE) (kP rfl) ?_) | refine kF ?_); simp +decide only [go_sem, u1, hw1, u2, u3, Int.toNat_natCast, Int.natCast_nonneg]) | (apply kG; (simp +decide only [go_sem, u1, hw1, u2, u3, Int.toNat_natCast, Int.natCast_nonneg]; rfl); all_goals (intro hcnd; first | (exact absurd hcnd (by decide)) | skip)) | ((first | refine kH ?_ ?_ | refine kI ?_ ?_) <;> (intro hcnd; simp +decide only [go_sem, hcnd, u1, hw1, u2, u3, Int.toNat_natCast, Int.natCast_nonneg]))))
    · have u3 : (encB p == s.extract a (a + leadN b0)) = false := bytes_ne he
      rw [if_neg (fun h => he (hext.2 h.2))] at hf
      have : firstR s a = (-1, 0) := by unfold firstR; rw [← hbs, hf]
      rw [this]
      (repeat' (first | refine kA ?_ | refine kB ?_ | ((first | (refine kC (N := 65) rfl (by kernel_rfl) ?_) | (apply kJ (id := 18) (N := 65) kpm0; kernel_rfl; rfl; kernel_rfl; (repeat (first | exact Picks.nil | (apply Picks.cons; rfl)))) | refine kD ?_ | refine kE ?_ | (refine kN (hS) (kP rfl) ?_) | (refine kO (hS) (kP rfl) ?_) | (refine kN (hE) (kP rfl) ?_) | (refine kO (hE) (kP rfl) ?_) | refine kF ?_); simp +decide only [go_sem, u1, hw1, u2, u3, Int.toNat_natCast, Int.natCast_nonneg]) | (apply kG; (simp +decide only [go_sem, u1, hw1, u2, u3, Int.toNat_natCast, Int.natCast_nonneg]; rfl); all_goals (intro hcnd; first | (exact absurd hcnd (by decide)) | skip)) | ((first | refine kH ?_ ?_ | refine kI ?_ ?_) <;> (intro hcnd; simp +decide only [go_sem, hcnd, u1, hw1, u2, u3, Int.toNat_natCast, Int.natCast_nonneg]))))
end Go.Proofs.YtdmmhemfnnbddaaGreatDoor

/- Strings: the reference's characters of a string. -/
namespace Go.Proofs.YtdmmhemfnnbddaaGreatDoor
open Go.Dl
open Go.Dl renaming dw_seq → kA, dw_block → kB, dw_reg → kC, dw_skip → kD, dw_exit → kE, dw_ret → kF, dw_cond → kG, guardC_f → kH, guardC_t → kI, dw_drw → kJ, dw_weaken → kK, sub_kn → kL, sub_ml → kM
open Go.Dl.CallC renaming mk → kN, light → kO
open Go.Dl.LeL renaming of_eq → kP
attribute [local irreducible] DW DCalls ECalls wk IW

def nl (l : List Nat) : List Int := l.map fun p : Nat => (p : Int)
theorem nl_snoc (l : List Nat) (p : Nat) : ints (nl (l ++ [p])) = ints (nl l) ++ [[li (p : Int)]] := by simp [nl]
def ptsR (s : ByteArray) : List Int := nl ((ptsL s.data.toList).getD [])
def okS (s : ByteArray) : Bool := Go.Lib.validD s.data.toList

set_option maxRecDepth 10000 in
set_option maxHeartbeats 4000000 in
theorem rPoints_D (s : ByteArray) (hs : s.size ≤ 1048576) : DCalls Tryz.prog 91 [dv (ls s)] (.tup [dv (.sl 1 (ints (ptsR s))), dv (lb (okS s))]) := by
  have hv := pts_valid s.data.toList
  refine dcalls (N := 28) (rs := [.tmp 2, .tmp 3]) (by kernel_rfl) Tryz.func91 rfl rfl rfl (by simp) ?_
  (repeat' (first | refine kA ?_ | refine kB ?_ | ((first | (refine kC (N := 28) rfl (by kernel_rfl) ?_) | refine kD ?_ | refine kE ?_); simp +decide only [go_sem]) | (apply kG; (simp +decide only [go_sem]; rfl); all_goals (intro hcnd; first | (exact absurd hcnd (by decide)) | skip))))
  refine dw_own 4 4 1 (by simp +decide only [go_sem]) ?_
  refine dw_loop_fam (fun y : Nat × List Nat => kn 28 [(0, dv (ls s)), (4, .one (.own 4 1 (ints (nl y.2)))), (5, dv (li y.1))] noMem)
    (fun y => y.1 ≤ s.size ∧ y.2.length ≤ y.1 ∧ ptsL s.data.toList = (ptsL (s.data.toList.drop y.1)).map fun l => y.2 ++ l) (fun y => s.size - y.1) (0, []) (kL rfl (by simp +decide only [go_sem, nl, List.map_nil]) (by simp [noMem])) ⟨by omega, by simp, by simp⟩ ?_
  rintro ⟨a, o⟩ ⟨h1, h2, h3⟩
  simp only at h1 h2 h3 ⊢
  by_cases ha : a < s.size
  · have t1 : decide ((a : Int) < (s.size : Int)) = true := by simp; omega
    have hF := first_D s a ha hs
    have hne : s.data.toList.drop a ≠ [] := by simp; omega
    cases hf : fstL (s.data.toList.drop a) with
    | none =>
      have e : firstR s a = (-1, 0) := by unfold firstR; rw [hf]
      rw [e] at hF
      rw [ptsL_bad hne hf] at h3
      have hok : okS s = false := by unfold okS; rw [← hv, h3]; rfl
      have hpt : ptsR s = [] := by unfold ptsR; rw [h3]; rfl
      (repeat' (first | refine kA ?_ | refine kB ?_ | ((first | (refine kC (N := 28) rfl (by kernel_rfl) ?_) | refine kD ?_ | refine kE ?_ | (refine kN (hF) (kP rfl) ?_) | (refine kO (hF) (kP rfl) ?_)); simp +decide only [go_sem, t1]) | (apply kG; (simp +decide only [go_sem, t1]; rfl); all_goals (intro hcnd; first | (exact absurd hcnd (by decide)) | skip))))
      refine dw_slot 2 (dv (.sl 1 [])) (by simp +decide only [go_sem]) ?_
      refine kF ?_; simp +decide only [go_sem]
      rw [hpt, hok]; rfl
    | some d =>
      obtain ⟨p, k⟩ := d
      have hw := fstL_width hf
      have e : firstR s a = ((p : Int), (k : Int)) := by unfold firstR; rw [hf]
      rw [e] at hF
      rw [ptsL_step hf] at h3
      have t2 : ((k : Int) == 0) = false := by simp; omega
      have hk2 : k ≤ s.size - a := by have := hw.2.1; simp at this; omega
      have u1 : IntKind.i64.wrap ((a : Int) + (k : Int)) = ((a + k : Nat) : Int) := by rw [wrap_i64 (by omega) (by omega)]; rfl
      (repeat' (first | refine kA ?_ | refine kB ?_ | ((first | (refine kC (N := 28) rfl (by kernel_rfl) ?_) | refine kD ?_ | refine kE ?_ | (refine kN (hF) (kP rfl) ?_) | (refine kO (hF) (kP rfl) ?_)); simp +decide only [go_sem, t1, t2, u1]) | (apply kG; (simp +decide only [go_sem, t1, t2, u1]; rfl); all_goals (intro hcnd; first | (exact absurd hcnd (by decide)) | skip))))
      have hl : ((nl o).length + 1) * 8 ≤ 140737488355328 := by simp [nl]; omega
      refine ⟨hl, ?_⟩
      (repeat' (first | refine kA ?_ | refine kB ?_ | ((first | (refine kC (N := 28) rfl (by kernel_rfl) ?_) | refine kD ?_ | refine kE ?_); simp +decide only [go_sem, u1]) | (apply kG; (simp +decide only [go_sem, u1]; rfl); all_goals (intro hcnd; first | (exact absurd hcnd (by decide)) | skip))))
      refine ⟨(a + k, o ++ [p]), ⟨by simp only; omega, by simp; omega, ?_⟩, by simp only; omega, kL rfl (by simp +decide only [go_sem, nl_snoc]) (by simp [noMem])⟩
      simp only
      rw [h3, List.drop_drop]
      cases ptsL (s.data.toList.drop (a + k)) <;> simp
  · have t1 : decide ((a : Int) < (s.size : Int)) = false := by simp; omega
    (repeat' (first | refine kA ?_ | refine kB ?_ | ((first | (refine kC (N := 28) rfl (by kernel_rfl) ?_) | refine kD ?_ | refine kE ?_); simp +decide only [go_sem, t1]) | (apply kG; (simp +decide only [go_sem, t1]; rfl); all_goals (intro hcnd; first | (exact absurd hcnd (by decide)) | skip))))
    refine dw_slot 2 (dv (.sl 1 (ints (nl o)))) (by simp +decide only [go_sem]) ?_
    refine kF ?_; simp +decide only [go_sem]
    have hn : s.data.toList.drop a = [] := List.drop_eq_nil_of_le (by simp; omega)
    rw [hn, ptsL_nil] at h3
    simp at h3
    have hpt : ptsR s = nl o := by unfold ptsR; rw [h3]; rfl
    have hok : okS s = true := by unfold okS; rw [← hv, h3]; rfl
    rw [hpt, hok]
end Go.Proofs.YtdmmhemfnnbddaaGreatDoor

/- Strings: the library's characters. -/
namespace Go.Proofs.YtdmmhemfnnbddaaGreatDoor
open Go.Dl
open Go.Dl renaming dw_seq → kA, dw_block → kB, dw_reg → kC, dw_skip → kD, dw_exit → kE, dw_ret → kF, dw_cond → kG, guardC_f → kH, guardC_t → kI, dw_drw → kJ, dw_weaken → kK, sub_kn → kL, sub_ml → kM
open Go.Dl.CallC renaming mk → kN, light → kO
open Go.Dl.LeL renaming of_eq → kP
attribute [local irreducible] DW DCalls ECalls wk IW

theorem tabs_of {w : World} {K : KSet} (h : KOk w K) : Go.Lib.Utf8Tabs (Tryz.laysV_ren.g 3) (Tryz.laysV_ren.g 4) w := by
  have h0 := h.g (Tryz.laysV_ren.g 3) _ rfl
  have h1 := h.g (Tryz.laysV_ren.g 4) _ rfl
  refine ⟨fun c hc => ?_, fun i hi => ?_⟩
  · refine (h0 c _ ?_).2.2
    simp [Go.Lib.firstTab, hc]
  · have e : ∀ j, j < 2 → ((List.range 16).flatMap fun i => [Value.int .u8 (Go.Lib.accLo i), Value.int .u8 (Go.Lib.accHi i)])[2 * i + j]? = some (if j = 0 then Value.int .u8 (Go.Lib.accLo i) else Value.int .u8 (Go.Lib.accHi i)) := by
      have hall : ∀ i : Fin 16, ∀ j : Fin 2, ((List.range 16).flatMap fun i => [Value.int .u8 (Go.Lib.accLo i), Value.int .u8 (Go.Lib.accHi i)])[2 * i.val + j.val]? = some (if j.val = 0 then Value.int .u8 (Go.Lib.accLo i.val) else Value.int .u8 (Go.Lib.accHi i.val)) := by
        intro i j
        match i, j with
        | ⟨i, hi⟩, ⟨j, hj⟩ =>
          have : i = 0 ∨ i = 1 ∨ i = 2 ∨ i = 3 ∨ i = 4 ∨ i = 5 ∨ i = 6 ∨ i = 7 ∨ i = 8 ∨ i = 9 ∨ i = 10 ∨ i = 11 ∨ i = 12 ∨ i = 13 ∨ i = 14 ∨ i = 15 := by omega
          have h2 : j = 0 ∨ j = 1 := by omega
          rcases this with rfl | rfl | rfl | rfl | rfl | rfl | rfl | rfl | rfl | rfl | rfl | rfl | rfl | rfl | rfl | rfl <;> rcases h2 with rfl | rfl <;> rfl
      exact fun j hj => hall ⟨i, hi⟩ ⟨j, hj⟩
    exact ⟨(h1 (2 * i) _ (e 0 (by omega))).2.2, (h1 (2 * i + 1) _ (e 1 (by omega))).2.2⟩

theorem valid_D (s : ByteArray) (hs : s.size ≤ 9223372036854775807) : DCalls Tryz.prog 137 [dv (ls s)] (dv (lb (okS s))) := by
  refine dcalls_below (by kernel_rfl) rfl fun w K vs hk hl hv => ?_
  obtain ⟨v, rfl⟩ : ∃ v, vs = #[v] := by
    match vs, hl with
    | ⟨[v]⟩, _ => exact ⟨v, rfl⟩
  have h0 := (hv 0 _ v rfl rfl).lit
  subst h0
  exact Go.Proofs.Any.utf8_ValidString Tryz.laysV s w hs (tabs_of hk)
end Go.Proofs.YtdmmhemfnnbddaaGreatDoor

/- Strings: a range over a string, as an iterator; the library's list of characters. -/
namespace Go.Proofs.YtdmmhemfnnbddaaGreatDoor
open Go.Dl
open Go.Dl renaming dw_seq → kA, dw_block → kB, dw_reg → kC, dw_skip → kD, dw_exit → kE, dw_ret → kF, dw_cond → kG, guardC_f → kH, guardC_t → kI, dw_drw → kJ, dw_weaken → kK, sub_kn → kL, sub_ml → kM
open Go.Dl.CallC renaming mk → kN, light → kO
open Go.Dl.LeL renaming of_eq → kP
attribute [local irreducible] DW DCalls ECalls wk IW

def posF (s : ByteArray) (p : Nat) : Nat → Nat
  | 0 => p
  | k + 1 => posF s p k + (Utf8.decode s (posF s p k)).2
theorem posF_shift (s : ByteArray) (p : Nat) : ∀ k, posF s (p + (Utf8.decode s p).2) k = posF s p (k + 1)
  | 0 => rfl
  | k + 1 => by
    have h := posF_shift s p k
    show posF s (p + (Utf8.decode s p).2) k + _ = _
    rw [h]; rfl
def runeAt (s : ByteArray) (k : Nat) : List D := [dv (li (posF s 0 k)), dv (li (Utf8.decode s (posF s 0 k)).1)]
def cntF (s : ByteArray) : Nat → Nat → Nat
  | 0, _ => 0
  | n + 1, p => if p < s.size then cntF s n (p + (Utf8.decode s p).2) + 1 else 0
theorem cntF_le (s : ByteArray) : ∀ n p, cntF s n p ≤ n
  | 0, _ => Nat.le_refl _
  | n + 1, p => by unfold cntF; split; · have := cntF_le s n (p + (Utf8.decode s p).2); omega
                   · omega
theorem cntF_at (s : ByteArray) : ∀ n p, (∀ k, k < cntF s n p → posF s p k < s.size) ∧ (s.size ≤ p + n → s.size ≤ posF s p (cntF s n p))
  | 0, p => ⟨fun k h => by simp [cntF] at h, fun h => by simpa [cntF, posF] using h⟩
  | n + 1, p => by
    have hw := Go.Lib.width_pos s p
    obtain ⟨i1, i2⟩ := cntF_at s n (p + (Utf8.decode s p).2)
    unfold cntF
    split
    · rename_i hp
      refine ⟨fun k hk => ?_, fun h => ?_⟩
      · cases k with
        | zero => exact hp
        | succ k => rw [← posF_shift]; exact i1 k (by omega)
      · rw [← posF_shift]; exact i2 (by omega)
    · rename_i hp
      exact ⟨fun k h => by omega, fun _ => by simp [posF]; omega⟩
def cnt (s : ByteArray) : Nat := cntF s s.size 0
def runesL (s : ByteArray) : List (List D) := (List.range (cnt s)).map (runeAt s)
theorem cnt_lt {s : ByteArray} {k : Nat} (h : k < cnt s) : posF s 0 k < s.size := (cntF_at s s.size 0).1 k h
theorem cnt_end (s : ByteArray) : s.size ≤ posF s 0 (cnt s) := (cntF_at s s.size 0).2 (by omega)
theorem cnt_le (s : ByteArray) : cnt s ≤ s.size := cntF_le s _ _
theorem runesL_len (s : ByteArray) : (runesL s).length = cnt s := by simp [runesL]
theorem runesL_at {s : ByteArray} {k : Nat} (h : k < cnt s) : (runesL s)[k]? = some (runeAt s k) := by simp [runesL, h]

set_option maxRecDepth 10000 in
set_option maxHeartbeats 2000000 in
theorem scalars1_S (s : ByteArray) (hs : s.size ≤ 1000000) : SeqD Tryz.prog 156 [dv (.pt [ls s])] (runesL s) := by
  refine seqD_intro (by kernel_rfl) Tryz.func156 rfl rfl (by simp) (by have := NB_big; simp; omega) ?_
  intro n l J hJ hY
  refine iw_seq_range (pre := [_]) (str := s) hJ hY (posF s 0) rfl rfl rfl rfl (by kernel_rfl) (by kernel_rfl) ?_
  simp only [List.map_cons, List.map_nil, List.cons_append, List.nil_append]
  simp +decide only [go_sem]
  intro b n' J' hJ' hY' hJe hnb hbn
  subst hJe
  refine iw_block ?_
  refine iw_loop (fun k : Nat => kn 17 [(0, dv (.lit (.func (.yield l) #[] #[]))), (6, itD b)] noMem) (fun k => some (2 * k)) (fun k => k ≤ cnt s) (fun k => cnt s - k) 0 (fsub_kn rfl (by simp +decide only [go_sem])) rfl (by omega) ?_
  intro k hk
  refine iw_seq ?_
  refine iw_region_next hJ hnb hJ' 0 rfl (by kernel_rfl) ?_
  simp only [List.take_succ_cons, List.take_zero, List.drop_succ_cons, List.drop_zero, List.map_cons, List.map_nil]
  simp +decide only [go_sem]
  refine ⟨_, k, rfl, rfl, by simp +decide only [go_sem, itD], rfl, fun hlt => ⟨rfl, ?_⟩, fun hge => ?_⟩
  · have hkc : k < cnt s := by
      rcases Nat.lt_or_ge k (cnt s) with h | h
      · exact h
      · have : k = cnt s := by omega
        subst this; have := cnt_end s; omega
    simp +decide only [go_sem]
    refine iw_seq ?_
    refine iw_cond (by simp +decide only [go_sem]; rfl) (fun _ => iw_skip ?_) (fun h => by cases h)
    simp +decide only [go_sem]
    refine iw_block ?_
    refine iw_seq (iw_pureQ hJ' ?_)
    (repeat (first | refine kA ?_ | refine kB ?_ | ((first | (refine kC (N := 17) rfl (by kernel_rfl) ?_) | refine kD ?_ | refine kE ?_); simp +decide only [go_sem])))
    refine iw_seq ?_
    have hr : (dbl (runesL s))[2 * k + 1]? = some (runeAt s k) := by rw [dbl_odd]; exact runesL_at hkc
    have hrl : (Utf8.decode s (posF s 0 k)).1 ≤ 1114111 := Go.Lib.rune_le s _
    have hw : IntKind.i64.wrap (((Utf8.decode s (posF s 0 k)).1 : Nat) : Int) = (((Utf8.decode s (posF s 0 k)).1 : Nat) : Int) := wrap64n (by omega)
    refine iw_region hJ' hY' 4 rfl (by kernel_rfl) ?_
    simp only [List.take_succ_cons, List.take_zero, List.drop_succ_cons, List.drop_zero, List.map_cons, List.map_nil]
    simp +decide only [go_sem, hw]
    refine ⟨true, rfl, fun h => (by cases h), fun _ => ⟨_, _, _, 2 * k + 1, _, rfl, by simp +decide only [go_sem], rfl, hr, DLeL.of_eq (by simp +decide only [go_sem, runeAt]), fun bb => ?_⟩⟩
    simp +decide only [go_sem]
    cases bb
    · refine iw_cond (by simp +decide only [go_sem]; rfl) (fun _ => iw_ret ?_) (fun h => by cases h)
      simp +decide only [go_sem]
      exact .inr rfl
    · refine iw_cond (by simp +decide only [go_sem]; rfl) (fun h => by cases h) (fun _ => iw_skip ?_)
      simp +decide only [go_sem]
      exact ⟨k + 1, by omega, by omega, fsub_kn rfl (by simp +decide only [go_sem, itD]), rfl⟩
  · have hkc : k = cnt s := by
      rcases Nat.lt_or_ge k (cnt s) with h | h
      · exact absurd (cnt_lt h) hge
      · omega
    simp +decide only [go_sem]
    refine iw_seq ?_
    refine iw_cond (by simp +decide only [go_sem]; rfl) (fun h => by cases h) (fun _ => iw_exit ?_)
    simp +decide only [go_sem]
    exact .inl (by rw [half_even, hkc, runesL_len])

set_option maxRecDepth 10000 in
theorem scalars_D (s : ByteArray) : DCalls Tryz.prog 138 [dv (ls s)] (dv (.fn 156 [.pt [ls s]])) := by
  refine dcalls (N := 4) (rs := [.tmp 2]) (by kernel_rfl) Tryz.func138 rfl rfl rfl (by simp) ?_
  (repeat (first | refine kA ?_ | refine kB ?_ | ((first | (refine kC (N := 4) rfl (by kernel_rfl) ?_) | refine kD ?_ | refine kE ?_); simp +decide only [go_sem])))
  refine dw_frz1 1 [ls s] (by simp) (by simp +decide only [go_sem]) ?_
  refine kF ?_; simp +decide only [go_sem]

def iRows (xs : List Int) : Dl.Rows := xs.map fun x => [T.c (li x)]
theorem iRows_tr (r : Ren) (xs : List Int) : Dl.Rows.tr r (iRows xs) = iRows xs := by
  simp [iRows, Dl.Rows.tr, T.trAll, T.tr]
theorem iRows_sz (xs : List Int) : RowsSz 1 (iRows xs) := fun r hr => by
  simp only [iRows, List.mem_map] at hr; obtain ⟨x, _, rfl⟩ := hr; rfl
theorem iRows_len (xs : List Int) : (iRows xs).length = xs.length := by simp [iRows]
theorem iRows_app (xs ys : List Int) : iRows (xs ++ ys) = iRows xs ++ iRows ys := by simp [iRows]
attribute [go_sem] iRows_tr

def runeI (s : ByteArray) (k : Nat) : Int := (Utf8.decode s (posF s 0 k)).1
def runesI (s : ByteArray) (k : Nat) : List Int := (List.range k).map (runeI s)
theorem runesI_snoc (s : ByteArray) (k : Nat) : runesI s (k + 1) = runesI s k ++ [runeI s k] := by simp [runesI, List.range_succ]
theorem runesI_len (s : ByteArray) (k : Nat) : (runesI s k).length = k := by simp [runesI]

set_option maxRecDepth 10000 in
set_option maxHeartbeats 4000000 in
theorem points_D (s : ByteArray) (hs : s.size ≤ 1000000) : DCalls Tryz.prog 130 [dv (ls s)] (.tup [.any, dv (lb (okS s))]) := by
  have hmax : maxLen = 9223372036854775807 := rfl
  have hV := valid_D s (by omega)
  refine dcalls (N := 19) (rs := [.tmp 2, .tmp 3]) (by kernel_rfl) Tryz.func130 rfl rfl rfl (by simp) ?_
  cases hok : okS s
  · rw [hok] at hV
    (repeat' (first | refine kA ?_ | refine kB ?_ | ((first | (refine kC (N := 19) rfl (by kernel_rfl) ?_) | refine kD ?_ | refine kE ?_ | (refine kN (hV) (kP rfl) ?_) | (refine kO (hV) (kP rfl) ?_)); simp +decide only [go_sem]) | (apply kG; (simp +decide only [go_sem]; rfl); all_goals (intro hcnd; first | (exact absurd hcnd (by decide)) | skip))))
    refine dw_slot 2 .any (DLe.any_ _) ?_
    refine kF ?_; simp +decide only [go_sem]
  · rw [hok] at hV
    (repeat' (first | refine kA ?_ | refine kB ?_ | ((first | (refine kC (N := 19) rfl (by kernel_rfl) ?_) | refine kD ?_ | refine kE ?_ | (refine kN (hV) (kP rfl) ?_) | (refine kO (hV) (kP rfl) ?_) | (refine kN (scalars_D s) (kP rfl) ?_) | (refine kO (scalars_D s) (kP rfl) ?_)); simp +decide only [go_sem]) | (apply kG; (simp +decide only [go_sem]; rfl); all_goals (intro hcnd; first | (exact absurd hcnd (by decide)) | skip))))
    have hl := cnt_le s
    refine kK (sub_zeroAt (i := 0) (j := 0) 4 1000 1 1 (rows := [[.ex 1 []]]) (r := [.ex 1 []]) (by simp +decide only [go_sem]) (by decide) rfl rfl) ?_
    refine dw_rfS 19 oneMid [4] (fun k (j : Nat) => kn 19 [(4, .one (.bx 4 1 0 0))] (ml [(4, [[.ba 1000 1 0 k (k + j)]]), (1000, iRows (runesI s k) ++ anyRows j 1)])) (fun k j => True) 0 trivial rfl rfl (by decide) (by simp +decide only [go_sem]; exact ⟨rfl, rfl⟩) (scalars1_S s hs)
      (kM rfl (by simp +decide only [go_sem]) (by simp +decide only [go_sem] <;> rfl)) (fun _ _ => rfl) (by intro ds h; obtain ⟨c, _, rfl⟩ := List.mem_map.1 h; rfl) ?_ ?_
    · intro k ds j hk _
      have hkc : k < cnt s := by have := (List.getElem?_eq_some_iff.1 hk).1; rwa [runesL_len] at this
      rw [runesL_at hkc] at hk
      injection hk with hk; subst hk
      (repeat (first | refine kA ?_ | refine kB ?_ | ((first | (refine kC (N := 19) rfl (by kernel_rfl) ?_) | refine kD ?_ | refine kE ?_); simp +decide only [go_sem, runeAt])))
      refine StepC.mk (Step.appendList (n := 1000) (rows := iRows (runesI s k)) (ys := iRows [runeI s k]) (j := j) (sz := 1) (by_ := 8) rfl rfl (by simp +decide only [go_sem]) (by simp +decide only [go_sem, iRows_len, runesI_len]) (by simp +decide only [go_sem]) (iRows_sz _) (.ex [[li (runeI s k)]]) (by rw [iRows_len, iRows_len, runesI_len]; simp; omega) ?_)
      intro j'
      simp +decide only [go_sem, iRows_len, runesI_len]
      (repeat (first | refine kA ?_ | refine kB ?_ | ((first | (refine kC (N := 19) rfl (by kernel_rfl) ?_) | refine kD ?_ | refine kE ?_); simp +decide only [go_sem])))
      refine ⟨_, sub_mv 17 1000 (by decide), ?_⟩
      refine ⟨j', kM rfl (by simp +decide only [go_sem]) (by simp +decide only [go_sem]; rw [runesI_snoc, iRows_app, List.append_assoc])⟩
    · intro j _
      rw [runesL_len]
      (repeat (first | refine kA ?_ | refine kB ?_ | ((first | (refine kC (N := 19) rfl (by kernel_rfl) ?_) | refine kD ?_ | refine kE ?_); simp +decide only [go_sem])))
      refine dw_slot 2 .any (DLe.any_ _) ?_
      refine kF ?_; simp +decide only [go_sem]
end Go.Proofs.YtdmmhemfnnbddaaGreatDoor

/- Strings: labels, glosses, texts. -/
namespace Go.Proofs.YtdmmhemfnnbddaaGreatDoor
open Go.Dl
open Go.Dl renaming dw_seq → kA, dw_block → kB, dw_reg → kC, dw_skip → kD, dw_exit → kE, dw_ret → kF, dw_cond → kG, guardC_f → kH, guardC_t → kI, dw_drw → kJ, dw_weaken → kK, sub_kn → kL, sub_ml → kM
open Go.Dl.CallC renaming mk → kN, light → kO
open Go.Dl.LeL renaming of_eq → kP
attribute [local irreducible] DW DCalls ECalls wk IW

def idxF {α : Type} (q : α → Bool) (l : List α) : Int := if l.any q then ((l.findIdx q : Nat) : Int) else -1

theorem idxF_at {α : Type} {q : α → Bool} {l : List α} {k : Nat} {x : α} (hx : l[k]? = some x) (hi : ∀ y ∈ l.take k, q y = false) (h : q x = true) : idxF q l = (k : Int) := by
  have hk := (List.getElem?_eq_some_iff.1 hx).1
  have hany : l.any q = true := List.any_eq_true.2 ⟨x, List.mem_of_getElem? hx, h⟩
  have hf : l.findIdx q = k := by
    rw [List.findIdx_eq hk]
    refine ⟨by obtain ⟨h1, h2⟩ := List.getElem?_eq_some_iff.1 hx; rw [h2]; exact h, fun j hj => ?_⟩
    exact hi _ (List.mem_iff_getElem?.2 ⟨j, by rw [List.getElem?_take_of_lt hj]; exact List.getElem?_eq_getElem (by omega)⟩)
  rw [idxF, if_pos hany, hf]
theorem idxF_no {α : Type} {q : α → Bool} {l : List α} (hi : ∀ y ∈ l, q y = false) : idxF q l = -1 := by
  rw [idxF, if_neg]; simpa using hi

/-! ### Kinds -/

theorem idxF_any {α : Type} (q : α → Bool) (l : List α) : decide ((0 : Int) ≤ idxF q l) = l.any q := by
  unfold idxF
  split
  · rename_i h; rw [h]; simp
  · rename_i h; simp at h ⊢; exact h

def ctlB (s : ByteArray) : Bool := s.data.toList.any fun b => ctl b.toNat
theorem ctl_tests (n : Nat) : (decide (((n : Nat) : Int) < 32) || (((n : Nat) : Int) == 127)) = ctl n := by
  rw [Bool.eq_iff_iff]; simp [ctl]; omega

set_option maxRecDepth 10000 in
theorem ctl1_D (n : Nat) : DCalls Tryz.prog 135 [dv (.lit (.int .u8 (n : Int)))] (dv (lb (ctl n))) := by
  rw [← ctl_tests]
  refine dcalls (N := 9) (rs := [.tmp 2]) (by kernel_rfl) Tryz.func135 rfl rfl rfl (by simp) ?_
  rcases Bool.eq_false_or_eq_true (decide (((n : Nat) : Int) < 32)) with t1 | t1
  · (repeat' (first | refine kA ?_ | refine kB ?_ | ((first | (refine kC (N := 9) rfl (by kernel_rfl) ?_) | refine kD ?_ | refine kE ?_ | refine kF ?_); simp +decide only [go_sem, t1]) | (apply kG; (simp +decide only [go_sem, t1]; rfl); all_goals (intro hcnd; first | (exact absurd hcnd (by decide)) | skip)) | ((first | refine kH ?_ ?_ | refine kI ?_ ?_) <;> (intro hcnd; simp +decide only [go_sem, hcnd, t1]))))
  · (repeat' (first | refine kA ?_ | refine kB ?_ | ((first | (refine kC (N := 9) rfl (by kernel_rfl) ?_) | refine kD ?_ | refine kE ?_ | refine kF ?_); simp +decide only [go_sem, t1]) | (apply kG; (simp +decide only [go_sem, t1]; rfl); all_goals (intro hcnd; first | (exact absurd hcnd (by decide)) | skip)) | ((first | refine kH ?_ ?_ | refine kI ?_ ?_) <;> (intro hcnd; simp +decide only [go_sem, hcnd, t1]))))

set_option maxRecDepth 10000 in
set_option maxHeartbeats 2000000 in
theorem idxB_D (s : ByteArray) (hs : s.size ≤ 1000000) : DCalls Tryz.prog 150 [dv (.sl 1 (bytesC s)), dv (.fn 135 [])] (dv (li (idxF (fun b : UInt8 => ctl b.toNat) s.data.toList))) := by
  have hmax : maxLen = 9223372036854775807 := rfl
  have hl : (bytesC s).length = s.data.toList.length := by simp [bytesC]
  have hl2 : s.data.toList.length = s.size := by simp
  refine dcalls (N := 19) (rs := [.tmp 4]) (by kernel_rfl) Tryz.func150 rfl rfl rfl (by simp) ?_
  (repeat (first | refine kA ?_ | refine kB ?_ | ((first | (refine kC (N := 19) rfl (by kernel_rfl) ?_) | refine kD ?_ | refine kE ?_); simp +decide only [go_sem, hl])))
  refine dw_rngI s.data.toList (fun k => kn 19 [(0, dv (.sl 1 (bytesC s))), (1, dv (.fn 135 [])), (7, dv (li s.data.toList.length)), (8, dv (li k))] noMem) (fun k => ∀ e ∈ s.data.toList.take k, ctl e.toNat = false) (by omega) (kL rfl (by simp +decide only [go_sem]) (by simp [noMem])) (by simp) ?_ ?_
  · intro k e he hk hm htk hlt hw hi
    have hx := bytesC_at he
    (repeat' (first | refine kA ?_ | refine kB ?_ | ((first | (refine kC (N := 19) rfl (by kernel_rfl) ?_) | refine kD ?_ | refine kE ?_ | (refine kN (ctl1_D e.toNat) (kP rfl) ?_) | (refine kO (ctl1_D e.toNat) (kP rfl) ?_) | refine kF ?_); simp +decide only [go_sem, hlt, hw, hx]) | (apply kG; (simp +decide only [go_sem, hlt, hw, hx]; rfl); all_goals (intro hcnd; first | (exact absurd hcnd (by decide)) | skip))))
    · rw [idxF_at he hi hcnd]
    · exact ⟨forall_snoc htk hi hcnd, kL rfl (by simp +decide only [go_sem]) (by simp [noMem])⟩
  · intro hlt hi
    rw [List.take_length] at hi
    (repeat' (first | refine kA ?_ | refine kB ?_ | ((first | (refine kC (N := 19) rfl (by kernel_rfl) ?_) | refine kD ?_ | refine kE ?_ | refine kF ?_); simp +decide only [go_sem, hlt]) | (apply kG; (simp +decide only [go_sem, hlt]; rfl); all_goals (intro hcnd; first | (exact absurd hcnd (by decide)) | skip))))
    rw [idxF_no hi]

set_option maxRecDepth 10000 in
theorem conB_D (s : ByteArray) (hs : s.size ≤ 1000000) : DCalls Tryz.prog 134 [dv (.sl 1 (bytesC s)), dv (.fn 135 [])] (dv (lb (ctlB s))) := by
  refine dcalls (N := 9) (rs := [.tmp 4]) (by kernel_rfl) Tryz.func134 rfl rfl rfl (by simp) ?_
  (repeat' (first | refine kA ?_ | refine kB ?_ | ((first | (refine kC (N := 9) rfl (by kernel_rfl) ?_) | refine kD ?_ | refine kE ?_ | (refine kN (idxB_D s hs) (kP rfl) ?_) | (refine kO (idxB_D s hs) (kP rfl) ?_) | refine kF ?_); simp +decide only [go_sem, idxF_any]) | (apply kG; (simp +decide only [go_sem, idxF_any]; rfl); all_goals (intro hcnd; first | (exact absurd hcnd (by decide)) | skip))))
  rfl

def labelB (s : ByteArray) : Bool := !(s.size == 0) && (!decide ((32 : Int) < (s.size : Int)) && (!ctlB s && okS s))

set_option maxRecDepth 10000 in
set_option maxHeartbeats 2000000 in
theorem label_D (s : ByteArray) : DCalls Tryz.prog 128 [dv (ls s)] (dv (lb (labelB s))) := by
  have he : (s == ({ data := #[] } : ByteArray)) = (s.size == 0) := by
    rw [Bool.eq_iff_iff, bytes_eq]
    constructor
    · intro h; subst h; rfl
    · intro h
      have h0 : s.size = 0 := by simpa using h
      cases s with | mk d =>
      have : d = #[] := Array.eq_empty_of_size_eq_zero h0
      subst this; rfl
  refine dcalls (N := 23) (rs := [.tmp 2]) (by kernel_rfl) Tryz.func128 rfl rfl rfl (by simp) ?_
  cases h0 : (s.size == 0)
  rotate_left
  · rw [h0] at he
    (repeat' (first | refine kA ?_ | refine kB ?_ | ((first | (refine kC (N := 23) rfl (by kernel_rfl) ?_) | refine kD ?_ | refine kE ?_ | refine kF ?_); simp +decide only [go_sem, he]) | (apply kG; (simp +decide only [go_sem, he]; rfl); all_goals (intro hcnd; first | (exact absurd hcnd (by decide)) | skip)) | ((first | refine kH ?_ ?_ | refine kI ?_ ?_) <;> (intro hcnd; simp +decide only [go_sem, hcnd, he]))))
    simp [labelB, h0]
  rw [h0] at he
  cases h1 : decide ((32 : Int) < (s.size : Int))
  rotate_left
  · (repeat' (first | refine kA ?_ | refine kB ?_ | ((first | (refine kC (N := 23) rfl (by kernel_rfl) ?_) | refine kD ?_ | refine kE ?_ | refine kF ?_); simp +decide only [go_sem, he, h1]) | (apply kG; (simp +decide only [go_sem, he, h1]; rfl); all_goals (intro hcnd; first | (exact absurd hcnd (by decide)) | skip)) | ((first | refine kH ?_ ?_ | refine kI ?_ ?_) <;> (intro hcnd; simp +decide only [go_sem, hcnd, he, h1]))))
    simp only [labelB, h1]; simp
  have hs : s.size ≤ 32 := by simp at h1; omega
  have hm : (s.size ≤ maxLen) = True := eq_true (by have hmax : maxLen = 9223372036854775807 := rfl; omega)
  have hC := conB_D s (by omega)
  cases h2 : ctlB s
  · rw [h2] at hC
    (repeat' (first | refine kA ?_ | refine kB ?_ | ((first | (refine kC (N := 23) rfl (by kernel_rfl) ?_) | refine kD ?_ | refine kE ?_ | (refine kN (hC) (kP rfl) ?_) | (refine kO (hC) (kP rfl) ?_) | (refine kN (points_D s (by omega)) (kP rfl) ?_) | (refine kO (points_D s (by omega)) (kP rfl) ?_) | refine kF ?_); simp +decide only [go_sem, he, h1, hm]) | (apply kG; (simp +decide only [go_sem, he, h1, hm]; rfl); all_goals (intro hcnd; first | (exact absurd hcnd (by decide)) | skip)) | ((first | refine kH ?_ ?_ | refine kI ?_ ?_) <;> (intro hcnd; simp +decide only [go_sem, hcnd, he, h1, hm]))))
    simp [labelB, h0, h1, h2]
  · rw [h2] at hC
    (repeat' (first | refine kA ?_ | refine kB ?_ | ((first | (refine kC (N := 23) rfl (by kernel_rfl) ?_) | refine kD ?_ | refine kE ?_ | (refine kN (hC) (kP rfl) ?_) | (refine kO (hC) (kP rfl) ?_) | refine kF ?_); simp +decide only [go_sem, he, h1, hm]) | (apply kG; (simp +decide only [go_sem, he, h1, hm]; rfl); all_goals (intro hcnd; first | (exact absurd hcnd (by decide)) | skip)) | ((first | refine kH ?_ ?_ | refine kI ?_ ?_) <;> (intro hcnd; simp +decide only [go_sem, hcnd, he, h1, hm]))))
    simp [labelB, h0, h1, h2]
end Go.Proofs.YtdmmhemfnnbddaaGreatDoor
