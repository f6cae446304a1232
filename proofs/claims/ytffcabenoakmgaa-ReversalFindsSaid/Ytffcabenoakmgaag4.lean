/- The logic of data over the kit's walk, and contracts of the functions that the law reaches, each said by plain data; part 5 of 6. -/
import Derived.Sort.Walk0
import Derived.Test.Ytffcabenoakmgaag3
set_option linter.all false
set_option linter.unusedVariables false
set_option linter.unusedSimpArgs false
/- Contract of the index's change. -/
namespace Go.Proofs.Ytffcabenoakmgaa
open Go.Dl
attribute [local irreducible] DW DCalls ECalls wk

abbrev VRow := ByteArray × List Part
def viewL (L : List IRow) : List VRow := L.map fun r => (r.gloss, r.ps)

def putV (V : List VRow) (g : ByteArray) (i : Nat) : List VRow := if (V.map (·.1))[i]?.map (fun q => cmpS q g) = some 0 then V else V.take i ++ (g, []) :: V.drop i
def takeV (V : List VRow) (g : ByteArray) (i : Nat) : List VRow := if (V.map (·.1))[i]?.map (fun q => cmpS q g) = some 0 then V.take i ++ V.drop (i + 1) else V
def turnP (inn : Bool) (ps : List Part) (p : Part) (q : Nat) : List Part := if inn = true then putAt ps p q else takeAt ps p q

/-- What one sense turns. -/
def StepV (g : ByteArray) (p : Part) (inn : Bool) (V V' : List VRow) : Prop :=
  ∃ i g1 ps q, BsOk (bsG (V.map (·.1)) g) V.length i ∧ (putV V g i)[i]? = some (g1, ps) ∧ BsOk (bsF ps p) ps.length q ∧
    if turnP inn ps p q = [] then ∃ i2, BsOk (bsG (((putV V g i).set i (g1, [])).map (·.1)) g) (putV V g i).length i2 ∧ V' = takeV ((putV V g i).set i (g1, [])) g i2
    else V' = (putV V g i).set i (g1, turnP inn ps p q)

def StepsV (id : Int) (inn : Bool) (ss : List Sense) : Nat → List VRow → List VRow → Prop
  | 0, V, V' => V' = V
  | k + 1, V, V' => ∃ V1, StepsV id inn ss k V V1 ∧ match ss[k]? with
    | some s => StepV s.gloss (pt id k) inn V1 V'
    | none => V' = V1

theorem nodup_ins {l m : List Nat} {a : Nat} (h : (l ++ m).Nodup) (ha : a ∉ l ++ m) : (l ++ a :: m).Nodup := by
  rw [List.nodup_append] at h ⊢
  simp only [List.mem_append, not_or] at ha
  refine ⟨h.1, List.nodup_cons.2 ⟨ha.2, h.2.1⟩, fun x hx y hy => ?_⟩
  rcases List.mem_cons.1 hy with rfl | hy
  · exact fun e => ha.1 (e ▸ hx)
  · exact h.2.2 x hx y hy

theorem mapSome {f : Dl.Rows → Dl.Rows} (b : Option Dl.Rows) {o r : Dl.Rows} {x : Option Dl.Rows} (hb : b = some o) (hx : x = some (f o)) (hk : x = some r) : b.map f = some r := by
  rw [hb, ← hk, hx]; rfl

--F33
set_option maxRecDepth 10000 in
set_option maxHeartbeats 8000000 in
theorem change_E (X B : Nat) (hX : NB ≤ X) (e : Entry) (inn : Bool) (L0 : List IRow) (jr0 : Nat) (hL0 : IxOk B L0) (hs : e.senses.length ≤ 1000) (hB0 : 1001 ≤ B) (hB : B ≤ 80000) (hlen : L0.length ≤ 3000) (hlens : ∀ r ∈ L0, r.ps.length ≤ 3000) :
    ECalls Try.prog 33 [.one (.bx X 2 0 0), .agg (e.enc.map T.c), dv (lb inn)] (ixM X L0 jr0)
      (fun r H' => r = .tup [] ∧ ∃ L jr, StepsV e.id inn e.senses e.senses.length (viewL L0) (viewL L) ∧ IxOk (B + e.senses.length) L ∧ H' X = ixM X L jr X ∧ ∀ k, mid k → H' k = ixM X L jr k) := by
  have hNB := NB_big
  have hmax : (1000000 : Nat) < maxLen := by simp [maxLen]
  have hXm : ¬ mid X := notmidNB hX
  have hXlt : (X < NB) = False := by simp; omega
  have hXe : ∀ k, k < 1000 → (X = k) = False := fun k hk => by simp; omega
  have hXe2 : ∀ k, k < 1000 → (k = X) = False := fun k hk => by simp; omega
  refine ecalls (N := 67) (rs := []) (by kernel_rfl) Try.func33 rfl rfl rfl (by simp) ?_
  (repeat (first | (refine dw_seq ?_) | (refine dw_block ?_) | ((first | (refine dw_reg (N := 67) rfl (by kernel_rfl) ?_) | (apply dw_drw (id := 5) (N := 67) [(0, .light), (1, .light), (2, .light), (3, .light), (4, .light), (5, .light), (6, .step), (7, .light)]; kernel_rfl; rfl; kernel_rfl; (repeat (first | exact Picks.nil | (apply Picks.cons; rfl)))) | (apply dw_drw (id := 10) (N := 67) [(0, .light), (1, .light), (2, .light), (3, .light), (4, .light), (5, .light), (6, .light), (7, .light), (8, .light), (9, .light), (10, .step)]; kernel_rfl; rfl; kernel_rfl; (repeat (first | exact Picks.nil | (apply Picks.cons; rfl)))) | (apply dw_drw (id := 12) (N := 67) [(0, .light), (1, .light), (2, .light), (3, .light), (4, .light), (5, .light), (6, .step)]; kernel_rfl; rfl; kernel_rfl; (repeat (first | exact Picks.nil | (apply Picks.cons; rfl)))) | (refine dw_skip ?_) | (refine dw_exit ?_)); simp (decide := true) only [go_sem, reduceIte, reduceCtorEq, Nat.reduceEqDiff, Nat.reduceAdd, Nat.reduceMul, Nat.reduceSub, Nat.reduceLeDiff, Nat.reduceBEq, Entry.enc])))
  refine dw_loop_fam (fun x : Nat × List IRow × Nat => kn 67 [(0, .one (.bx X 2 0 0)), (2, dv (lb inn)), (4, .one (.bx 4 8 0 0)), (12, dv (.sl 2 (e.senses.map Sense.enc))), (13, dv (li e.senses.length)), (14, dv (li x.1))] (fun k => if k = 4 then some [e.enc.map T.c] else ixM X x.2.1 x.2.2 k))
    (fun x => x.1 ≤ e.senses.length ∧ IxOk (B + x.1) x.2.1 ∧ x.2.1.length ≤ 3000 + x.1 ∧ (∀ r ∈ x.2.1, r.ps.length ≤ 3000 + x.1) ∧ StepsV e.id inn e.senses x.1 (viewL L0) (viewL x.2.1)) (fun x => e.senses.length - x.1) (0, L0, jr0)
    ?_ ⟨by omega, hL0, hlen, hlens, rfl⟩ ?_
  · have hfg : ∀ (m k : Nat), m < 1000 → (ixM X L0 jr0 k).map (Dl.Rows.tr (fgt m)) = ixM X L0 jr0 k := fun m k hm => (ixM_ok hX hL0 jr0).fgt hm k
    refine sub_kn rfl (by simp (decide := true) only [go_sem, reduceIte, reduceCtorEq, Nat.reduceEqDiff, Nat.reduceAdd, Nat.reduceMul, Nat.reduceSub, Nat.reduceLeDiff, Nat.reduceBEq, Entry.enc, hXe]) ?_
    intro k r hk
    simp (decide := true) only [go_sem, reduceIte, reduceCtorEq, Nat.reduceEqDiff, Nat.reduceAdd, Nat.reduceMul, Nat.reduceSub, Nat.reduceLeDiff, Nat.reduceBEq, hfg, Entry.enc]
    by_cases h4 : k = 4
    · rw [if_pos h4] at hk ⊢; rw [← hk]; rfl
    · rw [if_neg h4] at hk ⊢; exact hk
  rintro ⟨i, L, jr⟩ ⟨hi, hL, hll, hls, hV⟩
  simp only at hi hL hll hls hV
  rcases Nat.lt_or_ge i e.senses.length with hlt | hge
  · obtain ⟨s, hs1⟩ : ∃ s, e.senses[i]? = some s := ⟨e.senses[i], List.getElem?_eq_getElem hlt⟩
    have hd : decide ((i : Int) < (e.senses.length : Int)) = true := by simpa using hlt
    have hw := wrap_succ i (by omega)
    have hok := ixM_ok hX hL jr
    have hfg : ∀ (m k : Nat), m < 1000 → (ixM X L jr k).map (Dl.Rows.tr (fgt m)) = ixM X L jr k := fun m k hm => hok.fgt hm k
    (repeat (first | (refine dw_seq ?_) | (refine dw_block ?_) | ((first | (refine dw_reg (N := 67) rfl (by kernel_rfl) ?_) | (apply dw_drw (id := 5) (N := 67) [(0, .light), (1, .light), (2, .light), (3, .light), (4, .light), (5, .light), (6, .step), (7, .light)]; kernel_rfl; rfl; kernel_rfl; (repeat (first | exact Picks.nil | (apply Picks.cons; rfl)))) | (apply dw_drw (id := 10) (N := 67) [(0, .light), (1, .light), (2, .light), (3, .light), (4, .light), (5, .light), (6, .light), (7, .light), (8, .light), (9, .light), (10, .step)]; kernel_rfl; rfl; kernel_rfl; (repeat (first | exact Picks.nil | (apply Picks.cons; rfl)))) | (apply dw_drw (id := 12) (N := 67) [(0, .light), (1, .light), (2, .light), (3, .light), (4, .light), (5, .light), (6, .step)]; kernel_rfl; rfl; kernel_rfl; (repeat (first | exact Picks.nil | (apply Picks.cons; rfl)))) | (refine dw_skip ?_) | (refine dw_exit ?_)); simp (decide := true) only [go_sem, reduceIte, reduceCtorEq, Nat.reduceEqDiff, Nat.reduceAdd, Nat.reduceMul, Nat.reduceSub, Nat.reduceLeDiff, Nat.reduceBEq, hd])))
    apply dw_cond; (simp (decide := true) only [go_sem, reduceIte, reduceCtorEq, Nat.reduceEqDiff, Nat.reduceAdd, Nat.reduceMul, Nat.reduceSub, Nat.reduceLeDiff, Nat.reduceBEq]; rfl)
    · intro _
      (repeat (first | (refine dw_seq ?_) | (refine dw_block ?_) | ((first | (refine dw_reg (N := 67) rfl (by kernel_rfl) ?_) | (apply dw_drw (id := 5) (N := 67) [(0, .light), (1, .light), (2, .light), (3, .light), (4, .light), (5, .light), (6, .step), (7, .light)]; kernel_rfl; rfl; kernel_rfl; (repeat (first | exact Picks.nil | (apply Picks.cons; rfl)))) | (apply dw_drw (id := 10) (N := 67) [(0, .light), (1, .light), (2, .light), (3, .light), (4, .light), (5, .light), (6, .light), (7, .light), (8, .light), (9, .light), (10, .step)]; kernel_rfl; rfl; kernel_rfl; (repeat (first | exact Picks.nil | (apply Picks.cons; rfl)))) | (apply dw_drw (id := 12) (N := 67) [(0, .light), (1, .light), (2, .light), (3, .light), (4, .light), (5, .light), (6, .step)]; kernel_rfl; rfl; kernel_rfl; (repeat (first | exact Picks.nil | (apply Picks.cons; rfl)))) | (refine dw_skip ?_) | (refine dw_exit ?_)); simp (decide := true) only [go_sem, reduceIte, reduceCtorEq, Nat.reduceEqDiff, Nat.reduceAdd, Nat.reduceMul, Nat.reduceSub, Nat.reduceLeDiff, Nat.reduceBEq, hs1, Entry.enc, Sense.enc, hXe, hXe2, hXlt, hfg])))
      have hlm : (L.map irow).length = L.length := by simp
      have hput := putR_E (X + NB) 1000 (by omega) (Nat.le_refl _) (by omega) (carry X (ixM X L jr X) (ixM X L jr)) (carry_ok hok (fun r hr => (hok X r hr).2)) (L.map irow) (L.map (·.gloss)) jr s.gloss (by rw [hlm]; omega) (by simp) (irow_get L) (irow_sz L)
        (by rw [carry_x, ixM_x, hlm]) (by rw [carry_mid ⟨Nat.le_refl _, by omega⟩, ixM_r (by omega)]) (fun k r hk hkx => by
          unfold carry at hk
          rw [if_neg hkx] at hk
          split at hk
          · rename_i hkm; exact ixM_fix hL jr k r hk (fun e => hXm (e ▸ hkm))
          · cases hk)
      refine CallC.eff (caps := []) [X] hput (by simp (decide := true) only [go_sem, reduceIte, reduceCtorEq, Nat.reduceEqDiff, Nat.reduceAdd, Nat.reduceMul, Nat.reduceSub, Nat.reduceLeDiff, Nat.reduceBEq]) (DLeL.of_eq (by simp (decide := true) only [go_sem, reduceIte, reduceCtorEq, Nat.reduceEqDiff, Nat.reduceAdd, Nat.reduceMul, Nat.reduceSub, Nat.reduceLeDiff, Nat.reduceBEq])) (carry_call hok hXm (by simp (decide := true) only [go_sem, reduceIte, reduceCtorEq, Nat.reduceEqDiff, Nat.reduceAdd, Nat.reduceMul, Nat.reduceSub, Nat.reduceLeDiff, Nat.reduceBEq, hXe, hfg]) (fun r hr => (hok X r hr).2) (fun k hk => ?_)) ⟨by simpa using hXm, fun m hm => by simp at hm; subst hm; simp; omega⟩ ?_
      · have hmk : ∀ m, m < 1000 → (k = m) = False := fun m hm => by simp; have := hk.1; omega
        simp (decide := true) only [go_sem, reduceIte, reduceCtorEq, Nat.reduceEqDiff, Nat.reduceAdd, Nat.reduceMul, Nat.reduceSub, Nat.reduceLeDiff, Nat.reduceBEq, hmk, hfg]
      rintro r H1 ⟨at_, j1, hb1, rfl, h1x, h1r, h1k⟩
      rw [hlm] at hb1
      let L1 : List IRow := if (L.map (·.gloss))[at_]?.map (fun q => cmpS q s.gloss) = some 0 then L else L.take at_ ++ ⟨s.gloss, B + i, [], 0⟩ :: L.drop at_
      have hL1 : IxOk (B + i + 1) L1 := by
        have hbl := hb1.1
        simp only [L1]
        split
        · exact ⟨by omega, hL.nd, fun r hr => by have := hL.rng r hr; omega, by omega, fun r hr => by have := hls r hr; omega⟩
        · refine ⟨by omega, ?_, fun r hr => ?_, by simp; omega, fun r hr => ?_⟩
          · have hnew : B + i ∉ L.map (·.k) := fun h => by
              obtain ⟨r, hr, he⟩ := List.mem_map.1 h
              have := (hL.rng r hr).2
              omega
            have h0 := hL.nd
            rw [← List.take_append_drop at_ L, List.map_append] at h0 hnew
            rw [List.map_append, List.map_cons]
            exact nodup_ins h0 hnew
          · simp only [List.mem_append, List.mem_cons] at hr
            rcases hr with h | rfl | h
            · have := hL.rng r (List.mem_of_mem_take h); omega
            · simp only; omega
            · have := hL.rng r (List.mem_of_mem_drop h); omega
          · simp only [List.mem_append, List.mem_cons] at hr
            rcases hr with h | rfl | h
            · have := hls r (List.mem_of_mem_take h); omega
            · simp
            · have := hls r (List.mem_of_mem_drop h); omega
      have hv1 : viewL L1 = putV (viewL L) s.gloss at_ := by
        have hvg0 : (viewL L).map (·.1) = L.map (·.gloss) := by simp [viewL]
        simp only [L1, putV, hvg0]
        split <;> simp [viewL, List.map_take, List.map_drop]
      have hls1 : ∀ r ∈ L1, r.ps.length ≤ 3000 + i := fun r hm => by
        simp only [L1] at hm
        split at hm
        · exact hls r hm
        · simp only [List.mem_append, List.mem_cons] at hm
          rcases hm with h | rfl | h
          · exact hls r (List.mem_of_mem_take h)
          · simp
          · exact hls r (List.mem_of_mem_drop h)
      have hll1 : L1.length ≤ 3000 + i + 1 := by
        simp only [L1]
        split
        · omega
        · have := hb1.1
          simp only [List.length_append, List.length_cons, List.length_take, List.length_drop]; omega
      have hat : at_ < L1.length := by
        have hbl := hb1.1
        simp only [L1]
        split
        · rename_i hf
          rcases Nat.lt_or_ge at_ L.length with h | h
          · exact h
          · rw [List.getElem?_eq_none (by simpa using h)] at hf; cases hf
        · simp; omega
      have q8 : ∀ bx, callMemAft bx H1 [X] (some 29) 4 = (bx 4).map (Dl.Rows.tr (aft [X] (some 29))) := fun bx => aft_low (by omega) (by omega) (by simp)
      have q9 : ∀ bx, callMemAft bx H1 [X] (some 29) 7 = (bx 7).map (Dl.Rows.tr (aft [X] (some 29))) := fun bx => aft_low (by omega) (by omega) (by simp)
      have q10 : ∀ bx, callMemAft bx H1 [X] (some 29) 8 = (bx 8).map (Dl.Rows.tr (aft [X] (some 29))) := fun bx => aft_low (by omega) (by omega) (by simp)
      simp (decide := true) only [go_sem, reduceIte, reduceCtorEq, Nat.reduceEqDiff, Nat.reduceAdd, Nat.reduceMul, Nat.reduceSub, Nat.reduceLeDiff, Nat.reduceBEq, hXlt]
      refine dw_weaken (s' := kn 67 [(0, .one (.bx X 2 0 0)), (2, dv (lb inn)), (4, .one (.bx 4 8 0 0)), (7, .one (.bx 7 2 0 0)), (8, .one (.bx 8 3 0 0)), (9, dv (li at_)), (12, dv (.sl 2 (e.senses.map Sense.enc))), (13, dv (li e.senses.length)), (14, dv (li i))]
        (fun k => if k = 4 then some [e.enc.map T.c] else if k = 7 then some [s.enc.map T.c] else if k = 8 then some [pRow (pt e.id i)] else ixM X L1 j1 k)) ?_ ?_
      · have hx1 : ∀ bx, callMemAft bx H1 [X] (some 29) X = some [[.ba 1000 2 0 (putRw (L.map irow) (L.map (·.gloss)) s.gloss at_).length ((putRw (L.map irow) (L.map (·.gloss)) s.gloss at_).length + j1), .c (.fn 41 [])]] := fun bx => aft_x (by simp; omega) (fun r hr => by
          injection hr with hr; subst hr
          intro x hx; rw [List.mem_singleton.1 hx]; exact ⟨⟨Nat.le_refl _, by omega⟩, trivial, trivial⟩) h1x
        have hk1 : ∀ bx k, mid k → k ≠ 1000 → callMemAft bx H1 [X] (some 29) k = ixM X L jr k := fun bx k hk hkn => aft_mid hk (fun e => hXm (e ▸ hk)) (by simp; have := hk.1; omega) (by rw [h1k k hk hkn, carry_mid hk]) (fun r hr => (hok k r hr).2)
        have hk2 : ∀ bx, callMemAft bx H1 [X] (some 29) 1000 = some (putRw (L.map irow) (L.map (·.gloss)) s.gloss at_ ++ anyRows j1 2) := fun bx => aft_mid ⟨Nat.le_refl _, by omega⟩ (by omega) (by simp) h1r (fun r hr => by
          injection hr with hr; subst hr
          refine Rows.mids_append (fun x hx => ?_) (anyRows_mids _ _)
          have hm0 : ∀ x ∈ L.map irow, T.MidsAll x := fun x hx => rrows_mids hL jr x (List.mem_append_left _ hx)
          unfold putRw at hx
          split at hx
          · exact hm0 x hx
          · simp only [List.mem_append, List.mem_cons] at hx
            rcases hx with h | rfl | h
            · exact hm0 x (List.mem_of_mem_take h)
            · exact ⟨trivial, trivial, trivial⟩
            · exact hm0 x (List.mem_of_mem_drop h))
        have hout : ∀ k r, k ≠ X → ixM X L jr k = some r → mid k := fun k r hkX hk => by
          unfold ixM at hk
          rw [if_neg hkX] at hk
          split at hk
          · rename_i e; subst e; exact ⟨Nat.le_refl _, by omega⟩
          · simp only [Option.map_eq_some_iff] at hk
            obtain ⟨q, hq, rfl⟩ := hk
            have hkq := List.find?_some hq
            simp only [beq_iff_eq] at hkq
            have h1 := hL.rng q (List.mem_of_find?_eq_some hq)
            have h2 := hL.hB
            exact ⟨by omega, by omega⟩
        refine DS.Sub.trans (b := kn 67 [(0, .one (.bx X 2 0 0)), (2, dv (lb inn)), (4, .one (.bx 4 8 0 0)), (7, .one (.bx 7 2 0 0)), (8, .one (.bx 8 3 0 0)), (9, dv (li at_)), (12, dv (.sl 2 (e.senses.map Sense.enc))), (13, dv (li e.senses.length)), (14, dv (li i))]
          (fun k => if k = 4 then some [e.enc.map T.c] else if k = 7 then some [s.enc.map T.c] else if k = 8 then some [pRow (pt e.id i)] else if k = 1000 then some (putRw (L.map irow) (L.map (·.gloss)) s.gloss at_ ++ anyRows j1 2)
            else if k = X then some [[.ba 1000 2 0 (putRw (L.map irow) (L.map (·.gloss)) s.gloss at_).length ((putRw (L.map irow) (L.map (·.gloss)) s.gloss at_).length + j1), .c (.fn 41 [])]] else ixM X L jr k))
          (sub_kn rfl (by simp (decide := true) only [go_sem, reduceIte, reduceCtorEq, Nat.reduceEqDiff, Nat.reduceAdd, Nat.reduceMul, Nat.reduceSub, Nat.reduceLeDiff, Nat.reduceBEq, hXlt, hXe, hXe2]) (fun k r hk => ?_)) ?_
        · by_cases e4 : k = 4
          · subst e4; rw [← hk]; simp (decide := true) only [go_sem, reduceIte, reduceCtorEq, Nat.reduceEqDiff, Nat.reduceAdd, Nat.reduceMul, Nat.reduceSub, Nat.reduceLeDiff, Nat.reduceBEq, q8, Entry.enc]
          by_cases e7 : k = 7
          · subst e7; rw [← hk]; simp (decide := true) only [go_sem, reduceIte, reduceCtorEq, Nat.reduceEqDiff, Nat.reduceAdd, Nat.reduceMul, Nat.reduceSub, Nat.reduceLeDiff, Nat.reduceBEq, q9, Sense.enc]
          by_cases e8 : k = 8
          · subst e8; rw [← hk]; simp (decide := true) only [go_sem, reduceIte, reduceCtorEq, Nat.reduceEqDiff, Nat.reduceAdd, Nat.reduceMul, Nat.reduceSub, Nat.reduceLeDiff, Nat.reduceBEq, q10, Part.enc]; rfl
          rw [if_neg e4, if_neg e7, if_neg e8] at hk
          by_cases e1 : k = 1000
          · subst e1; rw [if_pos rfl] at hk; rw [← hk]; simp (decide := true) only [go_sem, reduceIte, reduceCtorEq, Nat.reduceEqDiff, Nat.reduceAdd, Nat.reduceMul, Nat.reduceSub, Nat.reduceLeDiff, Nat.reduceBEq, hk2]
          rw [if_neg e1] at hk
          by_cases eX : k = X
          · subst eX; rw [if_pos rfl] at hk; rw [← hk]; simp (decide := true) only [go_sem, reduceIte, reduceCtorEq, Nat.reduceEqDiff, Nat.reduceAdd, Nat.reduceMul, Nat.reduceSub, Nat.reduceLeDiff, Nat.reduceBEq, hx1]
          rw [if_neg eX] at hk
          have hkm := hout k r eX hk
          have q := fun bx => hk1 bx k hkm e1
          rw [← hk]
          simp (decide := true) only [go_sem, reduceIte, reduceCtorEq, Nat.reduceEqDiff, Nat.reduceAdd, Nat.reduceMul, Nat.reduceSub, Nat.reduceLeDiff, Nat.reduceBEq, q]
        · have hX1 : ¬ (1000 : Nat) = X := by omega
          by_cases hf : (L.map (·.gloss))[at_]?.map (fun q => cmpS q s.gloss) = some 0
          · have eL1 : L1 = L := by simp only [L1, if_pos hf]
            have ep : putRw (L.map irow) (L.map (·.gloss)) s.gloss at_ = L.map irow := by simp only [putRw, if_pos hf]
            rw [eL1, ep]
            refine sub_kn rfl (by simp (decide := true) only [go_sem, reduceIte, reduceCtorEq, Nat.reduceEqDiff, Nat.reduceAdd, Nat.reduceMul, Nat.reduceSub, Nat.reduceLeDiff, Nat.reduceBEq]) (fun k r hk => ?_)
            rw [← hk]
            by_cases e4 : k = 4
            · subst e4; simp (decide := true) only [go_sem, reduceIte, reduceCtorEq, Nat.reduceEqDiff, Nat.reduceAdd, Nat.reduceMul, Nat.reduceSub, Nat.reduceLeDiff, Nat.reduceBEq]
            by_cases e7 : k = 7
            · subst e7; simp (decide := true) only [go_sem, reduceIte, reduceCtorEq, Nat.reduceEqDiff, Nat.reduceAdd, Nat.reduceMul, Nat.reduceSub, Nat.reduceLeDiff, Nat.reduceBEq]
            by_cases e8 : k = 8
            · subst e8; simp (decide := true) only [go_sem, reduceIte, reduceCtorEq, Nat.reduceEqDiff, Nat.reduceAdd, Nat.reduceMul, Nat.reduceSub, Nat.reduceLeDiff, Nat.reduceBEq]
            by_cases e1 : k = 1000
            · subst e1; simp (decide := true) only [go_sem, reduceIte, reduceCtorEq, Nat.reduceEqDiff, Nat.reduceAdd, Nat.reduceMul, Nat.reduceSub, Nat.reduceLeDiff, Nat.reduceBEq, ixM_r (X := X) (Ne.symm hX1)]
            by_cases eX : k = X
            · subst eX; simp (decide := true) only [go_sem, reduceIte, reduceCtorEq, Nat.reduceEqDiff, Nat.reduceAdd, Nat.reduceMul, Nat.reduceSub, Nat.reduceLeDiff, Nat.reduceBEq, ixM_x, hXe]; simp [e1, hlm]
            · simp (decide := true) only [go_sem, reduceIte, reduceCtorEq, Nat.reduceEqDiff, Nat.reduceAdd, Nat.reduceMul, Nat.reduceSub, Nat.reduceLeDiff, Nat.reduceBEq, e4, e7, e8, e1, eX]; simp only [ixM, if_neg e1, if_neg eX]
          · have hbl := hb1.1
            have eL1 : L1 = L.take at_ ++ ⟨s.gloss, B + i, [], 0⟩ :: L.drop at_ := by simp only [L1, if_neg hf]
            have ep : putRw (L.map irow) (L.map (·.gloss)) s.gloss at_ = (L.map irow).take at_ ++ gRow s.gloss :: (L.map irow).drop at_ := by simp only [putRw, if_neg hf]
            have hta : ((L.map irow).take at_).length = at_ := by simp; omega
            have hrow0 : (putRw (L.map irow) (L.map (·.gloss)) s.gloss at_ ++ anyRows j1 2)[at_]? = some (gRow s.gloss) := by
              rw [ep, List.append_assoc, List.getElem?_append_right (by omega), hta, Nat.sub_self]; rfl
            refine DS.Sub.trans (sub_zeroAt 1000 at_ 1 (B + i) 3 3 (rows := putRw (L.map irow) (L.map (·.gloss)) s.gloss at_ ++ anyRows j1 2) (r := gRow s.gloss) (by simp (decide := true) only [go_sem, reduceIte, reduceCtorEq, Nat.reduceEqDiff, Nat.reduceAdd, Nat.reduceMul, Nat.reduceSub, Nat.reduceLeDiff, Nat.reduceBEq]) (by omega) hrow0 rfl) ?_
            refine sub_kn rfl (by simp (decide := true) only [go_sem, reduceIte, reduceCtorEq, Nat.reduceEqDiff, Nat.reduceAdd, Nat.reduceMul, Nat.reduceSub, Nat.reduceLeDiff, Nat.reduceBEq]) (fun k r hk => ?_)
            rw [← hk]
            have hnx : ¬ B + i = X := by have := hL1.hB; omega
            by_cases e4 : k = 4
            · subst e4; simp (decide := true) only [go_sem, reduceIte, reduceCtorEq, Nat.reduceEqDiff, Nat.reduceAdd, Nat.reduceMul, Nat.reduceSub, Nat.reduceLeDiff, Nat.reduceBEq]; rw [if_neg (by omega)]
            by_cases e7 : k = 7
            · subst e7; simp (decide := true) only [go_sem, reduceIte, reduceCtorEq, Nat.reduceEqDiff, Nat.reduceAdd, Nat.reduceMul, Nat.reduceSub, Nat.reduceLeDiff, Nat.reduceBEq]; rw [if_neg (by omega)]
            by_cases e8 : k = 8
            · subst e8; simp (decide := true) only [go_sem, reduceIte, reduceCtorEq, Nat.reduceEqDiff, Nat.reduceAdd, Nat.reduceMul, Nat.reduceSub, Nat.reduceLeDiff, Nat.reduceBEq]; rw [if_neg (by omega)]
            by_cases e1 : k = 1000
            · subst e1
              rw [if_neg e4, if_neg e7, if_neg e8, ixM_r (X := X) (Ne.symm hX1)]
              simp (decide := true) only [go_sem, reduceIte, reduceCtorEq, Nat.reduceEqDiff, Nat.reduceAdd, Nat.reduceMul, Nat.reduceSub, Nat.reduceLeDiff, Nat.reduceBEq]
              rw [eL1, ep, List.append_assoc, List.set_append_right _ _ (by omega), hta, Nat.sub_self]
              simp [List.map_take, List.map_drop, irow]
            by_cases eX : k = X
            · subst eX
              rw [if_neg e4, if_neg e7, if_neg e8, ixM_x]
              simp (decide := true) only [go_sem, reduceIte, reduceCtorEq, Nat.reduceEqDiff, Nat.reduceAdd, Nat.reduceMul, Nat.reduceSub, Nat.reduceLeDiff, Nat.reduceBEq, e1, e4, e7, e8]
              rw [if_neg (fun e => hnx e.symm), ep, eL1]
              simp
            · rw [if_neg e4, if_neg e7, if_neg e8]
              simp (decide := true) only [go_sem, reduceIte, reduceCtorEq, Nat.reduceEqDiff, Nat.reduceAdd, Nat.reduceMul, Nat.reduceSub, Nat.reduceLeDiff, Nat.reduceBEq, e1, e4, e7, e8, eX]
              by_cases eB : k = B + i
              · subst eB
                rw [if_pos rfl]
                have := ixM_k (X := X) j1 hL1 hXm (r := ⟨s.gloss, B + i, [], 0⟩) (by rw [eL1]; simp)
                rw [this]; rfl
              · rw [if_neg eB]
                simp only [ixM, if_neg eX, if_neg e1]
                congr 1
                rw [eL1]
                conv => lhs; rw [← List.take_append_drop at_ L]
                rw [List.find?_append, List.find?_append, List.find?_cons_of_neg (by simpa using fun e => eB e.symm)]
      · obtain ⟨r1, hr1⟩ : ∃ r1, L1[at_]? = some r1 := ⟨L1[at_], List.getElem?_eq_getElem hat⟩
        have hr1m := List.mem_of_getElem? hr1
        have hrng := hL1.rng r1 hr1m
        have hB1 := hL1.hB
        have hok1 := ixM_ok hX hL1 j1
        have hix := ixM_x X L1 j1
        have hir : ixM X L1 j1 1000 = some (L1.map irow ++ anyRows j1 2) := ixM_r (by omega) L1 j1
        have hik : ixM X L1 j1 r1.k = some (kmem r1) := ixM_k j1 hL1 hXm hr1m
        have hrow : (L1.map irow ++ anyRows j1 2)[at_]? = some [.c (ls r1.gloss), .ba r1.k 3 0 r1.ps.length (r1.ps.length + r1.j)] := by
          rw [List.getElem?_append_left (by simpa using hat), List.getElem?_map, hr1]; rfl
        have hfg1 : ∀ (m k : Nat), m < 1000 → (ixM X L1 j1 k).map (Dl.Rows.tr (fgt m)) = ixM X L1 j1 k := fun m k hm => hok1.fgt hm k
        have hke : ∀ k, k < 1000 → (r1.k = k) = False := fun k hk => by simp; omega
        have hkX : (r1.k = X) = False := by simp; omega
        (repeat (first | (refine dw_seq ?_) | (refine dw_block ?_) | ((first | (refine dw_reg (N := 67) rfl (by kernel_rfl) ?_) | (apply dw_drw (id := 5) (N := 67) [(0, .light), (1, .light), (2, .light), (3, .light), (4, .light), (5, .light), (6, .step), (7, .light)]; kernel_rfl; rfl; kernel_rfl; (repeat (first | exact Picks.nil | (apply Picks.cons; rfl)))) | (apply dw_drw (id := 10) (N := 67) [(0, .light), (1, .light), (2, .light), (3, .light), (4, .light), (5, .light), (6, .light), (7, .light), (8, .light), (9, .light), (10, .step)]; kernel_rfl; rfl; kernel_rfl; (repeat (first | exact Picks.nil | (apply Picks.cons; rfl)))) | (apply dw_drw (id := 12) (N := 67) [(0, .light), (1, .light), (2, .light), (3, .light), (4, .light), (5, .light), (6, .step)]; kernel_rfl; rfl; kernel_rfl; (repeat (first | exact Picks.nil | (apply Picks.cons; rfl)))) | (refine dw_skip ?_) | (refine dw_exit ?_)); simp (decide := true) only [go_sem, reduceIte, reduceCtorEq, Nat.reduceEqDiff, Nat.reduceAdd, Nat.reduceMul, Nat.reduceSub, Nat.reduceLeDiff, Nat.reduceBEq, Entry.enc, Sense.enc, hXe, hXe2, hXlt, hix, hir, hat, hrow, hfg1, hke])))
        have hKm : mid r1.k := ⟨by omega, by omega⟩
        have hr1l : r1.ps.length ≤ 5000 := hL1.lens r1 hr1m
        have g10 : ∀ r : Ren, r.g r1.k = some r1.k → Dl.Rows.tr r [[.ba r1.k 3 0 r1.ps.length (r1.ps.length + r1.j), .c (.fn 35 [])]] = [[.ba r1.k 3 0 r1.ps.length (r1.ps.length + r1.j), .c (.fn 35 [])]] := fun r hr => by
          simp [Rows.tr, T.trAll, T.tr, hr, T.baTo]
        have gk : ∀ (ps : List Part) (j : Nat) (r : Ren), r.g r1.k = some r1.k → Dl.Rows.tr r (ps.map pRow ++ anyRows j 3) = ps.map pRow ++ anyRows j 3 := fun ps j r _ => by
          rw [Rows.tr_append, anyRows_tr]
          congr 1
          have e : ps.map pRow = (ps.map Part.enc).map (List.map T.c) := by rw [List.map_map]; rfl
          rw [e]; exact Rows.tr_c r _
        refine dw_join (α := Nat × Nat) (fun y => kn 67 [(0, .one (.bx X 2 0 0)), (2, dv (lb inn)), (4, .one (.bx 4 8 0 0)), (7, .one (.bx 7 2 0 0)), (9, dv (li at_)), (10, .one (.bx 10 2 0 0)), (12, dv (.sl 2 (e.senses.map Sense.enc))), (13, dv (li e.senses.length)), (14, dv (li i))]
            (fun k => if k = 4 then some [e.enc.map T.c] else if k = 7 then some [s.enc.map T.c] else if k = 10 then some [[.ba r1.k 3 0 (turnP inn r1.ps (pt e.id i) y.1).length ((turnP inn r1.ps (pt e.id i) y.1).length + y.2), .c (.fn 35 [])]]
              else if k = r1.k then some ((turnP inn r1.ps (pt e.id i) y.1).map pRow ++ anyRows y.2 3) else if k = 1000 then some (Dl.Rows.tr (fgt r1.k) (L1.map irow ++ anyRows j1 2)) else ixM X L1 j1 k))
          (fun y => BsOk (bsF r1.ps (pt e.id i)) r1.ps.length y.1) ?_ ?_
        · have hM : MemOk (carryM 10 [[.ba r1.k 3 0 r1.ps.length (r1.ps.length + r1.j), .c (.fn 35 [])]] r1.k (kmem r1)) := fun k r hk => by
            unfold carryM at hk
            split at hk
            · injection hk with hk; subst hk
              exact ⟨by omega, fun x hx => by rw [List.mem_singleton.1 hx]; exact ⟨hKm, trivial, trivial⟩⟩
            · split at hk
              · injection hk with hk; subst hk; exact ⟨by omega, kmem_mids r1⟩
              · cases hk
          apply dw_cond; (simp (decide := true) only [go_sem, reduceIte, reduceCtorEq, Nat.reduceEqDiff, Nat.reduceAdd, Nat.reduceMul, Nat.reduceSub, Nat.reduceLeDiff, Nat.reduceBEq]; rfl)
          · intro hin
            have hin' : inn = true := by simpa using hin
            have hc := putP_E (10 + NB) r1.k (by omega) (by omega) (by omega) (carryM 10 [[.ba r1.k 3 0 r1.ps.length (r1.ps.length + r1.j), .c (.fn 35 [])]] r1.k (kmem r1)) hM r1.ps r1.j (pt e.id i) (by omega) (carryM_x _ _ _ _) (carryM_k (by omega)) (fun k r hk hkx => by
              unfold carryM at hk
              rw [if_neg hkx] at hk
              split at hk
              · injection hk with hk; subst hk
                intro q hq
                rename_i hkk
                unfold kmem
                rw [Rows.tr_append, anyRows_tr]
                congr 1
                have e : r1.ps.map pRow = (r1.ps.map Part.enc).map (List.map T.c) := by rw [List.map_map]; rfl
                rw [e]; exact Rows.tr_c q _
              · cases hk)
            (repeat (first | (refine dw_seq ?_) | (refine dw_block ?_) | ((first | (refine dw_reg (N := 67) rfl (by kernel_rfl) ?_) | (apply dw_drw (id := 5) (N := 67) [(0, .light), (1, .light), (2, .light), (3, .light), (4, .light), (5, .light), (6, .step), (7, .light)]; kernel_rfl; rfl; kernel_rfl; (repeat (first | exact Picks.nil | (apply Picks.cons; rfl)))) | (apply dw_drw (id := 10) (N := 67) [(0, .light), (1, .light), (2, .light), (3, .light), (4, .light), (5, .light), (6, .light), (7, .light), (8, .light), (9, .light), (10, .step)]; kernel_rfl; rfl; kernel_rfl; (repeat (first | exact Picks.nil | (apply Picks.cons; rfl)))) | (apply dw_drw (id := 12) (N := 67) [(0, .light), (1, .light), (2, .light), (3, .light), (4, .light), (5, .light), (6, .step)]; kernel_rfl; rfl; kernel_rfl; (repeat (first | exact Picks.nil | (apply Picks.cons; rfl)))) | (refine dw_skip ?_) | (refine dw_exit ?_)); simp (decide := true) only [go_sem, reduceIte, reduceCtorEq, Nat.reduceEqDiff, Nat.reduceAdd, Nat.reduceMul, Nat.reduceSub, Nat.reduceLeDiff, Nat.reduceBEq, Part.enc])))
            refine CallC.step (Step.callM (caps := []) (ns := [10]) (fun k => k == r1.k) rfl (by simp (decide := true) only [go_sem, reduceIte, reduceCtorEq, Nat.reduceEqDiff, Nat.reduceAdd, Nat.reduceMul, Nat.reduceSub, Nat.reduceLeDiff, Nat.reduceBEq]) (DLeL.of_eq (by simp (decide := true) only [go_sem, reduceIte, reduceCtorEq, Nat.reduceEqDiff, Nat.reduceAdd, Nat.reduceMul, Nat.reduceSub, Nat.reduceLeDiff, Nat.reduceBEq, Part.enc]; rfl)) hc (carryM_call (notmid (by omega)) hKm (by simp (decide := true) only [go_sem, reduceIte, reduceCtorEq, Nat.reduceEqDiff, Nat.reduceAdd, Nat.reduceMul, Nat.reduceSub, Nat.reduceLeDiff, Nat.reduceBEq]) (by simp (decide := true) only [go_sem, reduceIte, reduceCtorEq, Nat.reduceEqDiff, Nat.reduceAdd, Nat.reduceMul, Nat.reduceSub, Nat.reduceLeDiff, Nat.reduceBEq, hke, hfg1]; exact hik) g10 (gk _ _)) ⟨by simp [midM], fun m hm => by simp at hm; subst hm; simp⟩ ?_)
            rintro r H2 ⟨q, j2, hb2, h2x, h2k, h2m⟩
            have w1 : ∀ bx, callMemAftM (fun k => k == r1.k) bx H2 [10] (some 42) 10 = some [[.ba r1.k 3 0 (putAt r1.ps (pt e.id i) q).length ((putAt r1.ps (pt e.id i) q).length + j2), .c (.fn 35 [])]] := fun bx => aftM_x (by simp) hKm (fun r hr => by simp [Rows.tr, T.trAll, T.tr, hr, T.baTo]) h2x
            have w2 : ∀ bx, callMemAftM (fun k => k == r1.k) bx H2 [10] (some 42) r1.k = some ((putAt r1.ps (pt e.id i) q).map pRow ++ anyRows j2 3) := fun bx => aftM_k hKm (by omega) (by simp; omega) (gk _ _) h2k
            have w3 : ∀ bx k, k ≠ r1.k → k ≠ 10 → k ≠ 42 → callMemAftM (fun k => k == r1.k) bx H2 [10] (some 42) k = (bx k).map (Dl.Rows.tr (aftM (fun k => k == r1.k) [10] (some 42))) := fun bx k e1 e2 e3 => aftM_out e1 e2 (by simpa using fun e => e3 e.symm)
            simp (decide := true) only [go_sem, reduceIte, reduceCtorEq, Nat.reduceEqDiff, Nat.reduceAdd, Nat.reduceMul, Nat.reduceSub, Nat.reduceLeDiff, Nat.reduceBEq]
            refine ⟨(q, j2), hb2, sub_kn rfl (by simp (decide := true) only [go_sem, reduceIte, reduceCtorEq, Nat.reduceEqDiff, Nat.reduceAdd, Nat.reduceMul, Nat.reduceSub, Nat.reduceLeDiff, Nat.reduceBEq, midM, hXlt, hXe, hXe2]) (fun k r hk => ?_)⟩
            have hkA := aftM_keepX r1.k (m := 42) (by omega)
            have hk1 : ¬ r1.k = 1000 := by omega
            rw [aftCallM_bx]
            by_cases e10 : k = 10
            · subst e10
              rw [w1, ← hk]
              simp [turnP, hin']
            by_cases eK : k = r1.k
            · subst eK
              rw [w2, ← hk]
              simp [turnP, hin', e10, hke]
            by_cases e4 : k = 4
            · subst e4
              rw [w3 _ 4 eK (by omega) (by omega)]
              refine mapSome _ (o := [e.enc.map T.c]) (by simp (decide := true) only [go_sem, reduceIte, reduceCtorEq, Nat.reduceEqDiff, Nat.reduceAdd, Nat.reduceMul, Nat.reduceSub, Nat.reduceLeDiff, Nat.reduceBEq, Entry.enc]) (by simp (decide := true) only [go_sem, reduceIte, reduceCtorEq, Nat.reduceEqDiff, Nat.reduceAdd, Nat.reduceMul, Nat.reduceSub, Nat.reduceLeDiff, Nat.reduceBEq, Entry.enc]) hk
            by_cases e7 : k = 7
            · subst e7
              rw [w3 _ 7 eK (by omega) (by omega)]
              refine mapSome _ (o := [s.enc.map T.c]) (by simp (decide := true) only [go_sem, reduceIte, reduceCtorEq, Nat.reduceEqDiff, Nat.reduceAdd, Nat.reduceMul, Nat.reduceSub, Nat.reduceLeDiff, Nat.reduceBEq, Sense.enc]) (by simp (decide := true) only [go_sem, reduceIte, reduceCtorEq, Nat.reduceEqDiff, Nat.reduceAdd, Nat.reduceMul, Nat.reduceSub, Nat.reduceLeDiff, Nat.reduceBEq, Sense.enc]) hk
            by_cases elow : k < 1000
            · have hk' : ixM X L1 j1 k = some r := by
                have e1 : ¬ k = 1000 := by omega
                simpa only [if_neg e4, if_neg e7, if_neg e10, if_neg eK, if_neg e1] using hk
              rw [hok1.low elow] at hk'
              cases hk'
            have hmk : ∀ m, m < 1000 → (k = m) = False := fun m hm => by simp; omega
            rw [w3 _ k eK e10 (by omega)]
            by_cases e1 : k = 1000
            · subst e1
              refine mapSome _ (o := L1.map irow ++ anyRows j1 2) (by simp (decide := true) only [go_sem, reduceIte, reduceCtorEq, Nat.reduceEqDiff, Nat.reduceAdd, Nat.reduceMul, Nat.reduceSub, Nat.reduceLeDiff, Nat.reduceBEq, hfg1]; exact hir) ?_ hk
              rw [rows_fgtK hL1 r1.k j1 hkA (aftM_gK hKm _), if_neg (by omega), if_neg (by omega), if_neg (by omega), if_neg (by omega), if_pos rfl, Rows.tr_append, anyRows_tr]
            · have hk' : ixM X L1 j1 k = some r := by
                simpa only [if_neg e4, if_neg e7, if_neg e10, if_neg eK, if_neg e1] using hk
              rw [← hk', ← ixM_keep hk1 j1 hkA e1]
              congr 1
              simp (decide := true) only [go_sem, reduceIte, reduceCtorEq, Nat.reduceEqDiff, Nat.reduceAdd, Nat.reduceMul, Nat.reduceSub, Nat.reduceLeDiff, Nat.reduceBEq, hmk, hfg1]
          · intro hin
            have hin' : inn = false := by simpa using hin
            have hc := takeP_E (10 + NB) r1.k (by omega) (by omega) (by omega) (carryM 10 [[.ba r1.k 3 0 r1.ps.length (r1.ps.length + r1.j), .c (.fn 35 [])]] r1.k (kmem r1)) hM r1.ps r1.j (pt e.id i) (by omega) (carryM_x _ _ _ _) (carryM_k (by omega)) (fun k r hk hkx => by
              unfold carryM at hk
              rw [if_neg hkx] at hk
              split at hk
              · injection hk with hk; subst hk
                intro q hq
                rename_i hkk
                unfold kmem
                rw [Rows.tr_append, anyRows_tr]
                congr 1
                have e : r1.ps.map pRow = (r1.ps.map Part.enc).map (List.map T.c) := by rw [List.map_map]; rfl
                rw [e]; exact Rows.tr_c q _
              · cases hk)
            (repeat (first | (refine dw_seq ?_) | (refine dw_block ?_) | ((first | (refine dw_reg (N := 67) rfl (by kernel_rfl) ?_) | (apply dw_drw (id := 5) (N := 67) [(0, .light), (1, .light), (2, .light), (3, .light), (4, .light), (5, .light), (6, .step), (7, .light)]; kernel_rfl; rfl; kernel_rfl; (repeat (first | exact Picks.nil | (apply Picks.cons; rfl)))) | (apply dw_drw (id := 10) (N := 67) [(0, .light), (1, .light), (2, .light), (3, .light), (4, .light), (5, .light), (6, .light), (7, .light), (8, .light), (9, .light), (10, .step)]; kernel_rfl; rfl; kernel_rfl; (repeat (first | exact Picks.nil | (apply Picks.cons; rfl)))) | (apply dw_drw (id := 12) (N := 67) [(0, .light), (1, .light), (2, .light), (3, .light), (4, .light), (5, .light), (6, .step)]; kernel_rfl; rfl; kernel_rfl; (repeat (first | exact Picks.nil | (apply Picks.cons; rfl)))) | (refine dw_skip ?_) | (refine dw_exit ?_)); simp (decide := true) only [go_sem, reduceIte, reduceCtorEq, Nat.reduceEqDiff, Nat.reduceAdd, Nat.reduceMul, Nat.reduceSub, Nat.reduceLeDiff, Nat.reduceBEq, Part.enc])))
            refine CallC.step (Step.callM (caps := []) (ns := [10]) (fun k => k == r1.k) rfl (by simp (decide := true) only [go_sem, reduceIte, reduceCtorEq, Nat.reduceEqDiff, Nat.reduceAdd, Nat.reduceMul, Nat.reduceSub, Nat.reduceLeDiff, Nat.reduceBEq]) (DLeL.of_eq (by simp (decide := true) only [go_sem, reduceIte, reduceCtorEq, Nat.reduceEqDiff, Nat.reduceAdd, Nat.reduceMul, Nat.reduceSub, Nat.reduceLeDiff, Nat.reduceBEq, Part.enc]; rfl)) hc (carryM_call (notmid (by omega)) hKm (by simp (decide := true) only [go_sem, reduceIte, reduceCtorEq, Nat.reduceEqDiff, Nat.reduceAdd, Nat.reduceMul, Nat.reduceSub, Nat.reduceLeDiff, Nat.reduceBEq]) (by simp (decide := true) only [go_sem, reduceIte, reduceCtorEq, Nat.reduceEqDiff, Nat.reduceAdd, Nat.reduceMul, Nat.reduceSub, Nat.reduceLeDiff, Nat.reduceBEq, hke, hfg1]; exact hik) g10 (gk _ _)) ⟨by simp [midM], fun m hm => by simp at hm; subst hm; simp⟩ ?_)
            rintro r H2 ⟨q, j2, hb2, rfl, h2x, h2k, h2m⟩
            have w1 : ∀ bx, callMemAftM (fun k => k == r1.k) bx H2 [10] (some 44) 10 = some [[.ba r1.k 3 0 (takeAt r1.ps (pt e.id i) q).length ((takeAt r1.ps (pt e.id i) q).length + j2), .c (.fn 35 [])]] := fun bx => aftM_x (by simp) hKm (fun r hr => by simp [Rows.tr, T.trAll, T.tr, hr, T.baTo]) h2x
            have w2 : ∀ bx, callMemAftM (fun k => k == r1.k) bx H2 [10] (some 44) r1.k = some ((takeAt r1.ps (pt e.id i) q).map pRow ++ anyRows j2 3) := fun bx => aftM_k hKm (by omega) (by simp; omega) (gk _ _) h2k
            have w3 : ∀ bx k, k ≠ r1.k → k ≠ 10 → k ≠ 44 → callMemAftM (fun k => k == r1.k) bx H2 [10] (some 44) k = (bx k).map (Dl.Rows.tr (aftM (fun k => k == r1.k) [10] (some 44))) := fun bx k e1 e2 e3 => aftM_out e1 e2 (by simpa using fun e => e3 e.symm)
            simp (decide := true) only [go_sem, reduceIte, reduceCtorEq, Nat.reduceEqDiff, Nat.reduceAdd, Nat.reduceMul, Nat.reduceSub, Nat.reduceLeDiff, Nat.reduceBEq]
            refine ⟨(q, j2), hb2, sub_kn rfl (by simp (decide := true) only [go_sem, reduceIte, reduceCtorEq, Nat.reduceEqDiff, Nat.reduceAdd, Nat.reduceMul, Nat.reduceSub, Nat.reduceLeDiff, Nat.reduceBEq, midM, hXlt, hXe, hXe2]) (fun k r hk => ?_)⟩
            have hkA := aftM_keepX r1.k (m := 44) (by omega)
            have hk1 : ¬ r1.k = 1000 := by omega
            rw [aftCallM_bx]
            by_cases e10 : k = 10
            · subst e10
              rw [w1, ← hk]
              simp [turnP, hin']
            by_cases eK : k = r1.k
            · subst eK
              rw [w2, ← hk]
              simp [turnP, hin', e10, hke]
            by_cases e4 : k = 4
            · subst e4
              rw [w3 _ 4 eK (by omega) (by omega)]
              refine mapSome _ (o := [e.enc.map T.c]) (by simp (decide := true) only [go_sem, reduceIte, reduceCtorEq, Nat.reduceEqDiff, Nat.reduceAdd, Nat.reduceMul, Nat.reduceSub, Nat.reduceLeDiff, Nat.reduceBEq, Entry.enc]) (by simp (decide := true) only [go_sem, reduceIte, reduceCtorEq, Nat.reduceEqDiff, Nat.reduceAdd, Nat.reduceMul, Nat.reduceSub, Nat.reduceLeDiff, Nat.reduceBEq, Entry.enc]) hk
            by_cases e7 : k = 7
            · subst e7
              rw [w3 _ 7 eK (by omega) (by omega)]
              refine mapSome _ (o := [s.enc.map T.c]) (by simp (decide := true) only [go_sem, reduceIte, reduceCtorEq, Nat.reduceEqDiff, Nat.reduceAdd, Nat.reduceMul, Nat.reduceSub, Nat.reduceLeDiff, Nat.reduceBEq, Sense.enc]) (by simp (decide := true) only [go_sem, reduceIte, reduceCtorEq, Nat.reduceEqDiff, Nat.reduceAdd, Nat.reduceMul, Nat.reduceSub, Nat.reduceLeDiff, Nat.reduceBEq, Sense.enc]) hk
            by_cases elow : k < 1000
            · have hk' : ixM X L1 j1 k = some r := by
                have e1 : ¬ k = 1000 := by omega
                simpa only [if_neg e4, if_neg e7, if_neg e10, if_neg eK, if_neg e1] using hk
              rw [hok1.low elow] at hk'
              cases hk'
            have hmk : ∀ m, m < 1000 → (k = m) = False := fun m hm => by simp; omega
            rw [w3 _ k eK e10 (by omega)]
            by_cases e1 : k = 1000
            · subst e1
              refine mapSome _ (o := L1.map irow ++ anyRows j1 2) (by simp (decide := true) only [go_sem, reduceIte, reduceCtorEq, Nat.reduceEqDiff, Nat.reduceAdd, Nat.reduceMul, Nat.reduceSub, Nat.reduceLeDiff, Nat.reduceBEq, hfg1]; exact hir) ?_ hk
              rw [rows_fgtK hL1 r1.k j1 hkA (aftM_gK hKm _), if_neg (by omega), if_neg (by omega), if_neg (by omega), if_neg (by omega), if_pos rfl, Rows.tr_append, anyRows_tr]
            · have hk' : ixM X L1 j1 k = some r := by
                simpa only [if_neg e4, if_neg e7, if_neg e10, if_neg eK, if_neg e1] using hk
              rw [← hk', ← ixM_keep hk1 j1 hkA e1]
              congr 1
              simp (decide := true) only [go_sem, reduceIte, reduceCtorEq, Nat.reduceEqDiff, Nat.reduceAdd, Nat.reduceMul, Nat.reduceSub, Nat.reduceLeDiff, Nat.reduceBEq, hmk, hfg1]
        · rintro ⟨q, j2⟩ hq
          have hXK : (X = r1.k) = False := by simp; omega
          have hX1 : (X = 1000) = False := by simp; omega
          have hK1 : (r1.k = 1000) = False := by simp; omega
          have h1K : (1000 = r1.k) = False := by simp; omega
          have h1X : (1000 = X) = False := by simp; omega
          have hrow2 : (Dl.Rows.tr (fgt r1.k) (L1.map irow ++ anyRows j1 2))[at_]? = some [.c (ls r1.gloss), .c .any] := by
            unfold Dl.Rows.tr
            rw [List.getElem?_map, hrow]
            simp [T.trAll, T.tr, fgt, T.baTo]
          generalize hRR : Dl.Rows.tr (fgt r1.k) (L1.map irow ++ anyRows j1 2) = RR at hrow2
          (repeat (first | (refine dw_seq ?_) | (refine dw_block ?_) | ((first | (refine dw_reg (N := 67) rfl (by kernel_rfl) ?_) | (apply dw_drw (id := 5) (N := 67) [(0, .light), (1, .light), (2, .light), (3, .light), (4, .light), (5, .light), (6, .step), (7, .light)]; kernel_rfl; rfl; kernel_rfl; (repeat (first | exact Picks.nil | (apply Picks.cons; rfl)))) | (apply dw_drw (id := 10) (N := 67) [(0, .light), (1, .light), (2, .light), (3, .light), (4, .light), (5, .light), (6, .light), (7, .light), (8, .light), (9, .light), (10, .step)]; kernel_rfl; rfl; kernel_rfl; (repeat (first | exact Picks.nil | (apply Picks.cons; rfl)))) | (apply dw_drw (id := 12) (N := 67) [(0, .light), (1, .light), (2, .light), (3, .light), (4, .light), (5, .light), (6, .step)]; kernel_rfl; rfl; kernel_rfl; (repeat (first | exact Picks.nil | (apply Picks.cons; rfl)))) | (refine dw_skip ?_) | (refine dw_exit ?_)); simp (decide := true) only [go_sem, reduceIte, reduceCtorEq, Nat.reduceEqDiff, Nat.reduceAdd, Nat.reduceMul, Nat.reduceSub, Nat.reduceLeDiff, Nat.reduceBEq, hXe, hXe2, hXlt, hXK, hX1, hK1, h1K, h1X, hke, hix, hat, hrow2])))
          let r2 : IRow := ⟨r1.gloss, r1.k, turnP inn r1.ps (pt e.id i) q, j2⟩
          have hr13 : r1.ps.length ≤ 3000 + i := by
            have hm := hr1m
            simp only [L1] at hm
            split at hm
            · exact hls r1 hm
            · simp only [List.mem_append, List.mem_cons] at hm
              rcases hm with h | rfl | h
              · exact hls r1 (List.mem_of_mem_take h)
              · simp
              · exact hls r1 (List.mem_of_mem_drop h)
          have hps3 : (turnP inn r1.ps (pt e.id i) q).length ≤ 3000 + i + 1 := by
            unfold turnP putAt takeAt
            split
            · split
              · omega
              · simp; omega
            · split
              · simp; omega
              · omega
          have hps2 : (turnP inn r1.ps (pt e.id i) q).length ≤ 5000 := by omega
          have hL2 : IxOk (B + i + 1) (L1.set at_ r2) := hL1.set hr1 rfl hps2
          refine dw_weaken (s' := kn 67 [(0, .one (.bx X 2 0 0)), (2, dv (lb inn)), (4, .one (.bx 4 8 0 0)), (7, .one (.bx 7 2 0 0)), (12, dv (.sl 2 (e.senses.map Sense.enc))), (13, dv (li e.senses.length)), (14, dv (li i)), (58, dv (lb (((turnP inn r1.ps (pt e.id i) q).length : Int) == 0)))]
            (fun k => if k = 4 then some [e.enc.map T.c] else if k = 7 then some [s.enc.map T.c] else ixM X (L1.set at_ r2) j1 k)) (sub_kn rfl (by simp (decide := true) only [go_sem, reduceIte, reduceCtorEq, Nat.reduceEqDiff, Nat.reduceAdd, Nat.reduceMul, Nat.reduceSub, Nat.reduceLeDiff, Nat.reduceBEq]) (fun k r hk => ?_)) ?_
          · by_cases e4 : k = 4
            · subst e4
              rw [← hk]
              simp (decide := true) only [go_sem, reduceIte, reduceCtorEq, Nat.reduceEqDiff, Nat.reduceAdd, Nat.reduceMul, Nat.reduceSub, Nat.reduceLeDiff, Nat.reduceBEq, Entry.enc]
            by_cases e7 : k = 7
            · subst e7
              rw [← hk]
              simp (decide := true) only [go_sem, reduceIte, reduceCtorEq, Nat.reduceEqDiff, Nat.reduceAdd, Nat.reduceMul, Nat.reduceSub, Nat.reduceLeDiff, Nat.reduceBEq, Sense.enc]
            rw [if_neg e4, if_neg e7] at hk
            by_cases elow : k < 1000
            · rw [(ixM_ok hX hL2 j1).low elow] at hk; cases hk
            have hmk : ∀ m, m < 1000 → (k = m) = False := fun m hm => by simp; omega
            rw [ixM_set hXm hL1 hr1 (r2 := r2) rfl, hRR] at hk
            by_cases eK : k = r1.k
            · subst eK
              rw [if_pos rfl] at hk
              simp (decide := true) only [go_sem, reduceIte, reduceCtorEq, Nat.reduceEqDiff, Nat.reduceAdd, Nat.reduceMul, Nat.reduceSub, Nat.reduceLeDiff, Nat.reduceBEq, hmk, hK1]
              exact Option.some.inj hk
            by_cases e1 : k = 1000
            · subst e1
              rw [if_neg eK, if_pos rfl] at hk
              simp (decide := true) only [go_sem, reduceIte, reduceCtorEq, Nat.reduceEqDiff, Nat.reduceAdd, Nat.reduceMul, Nat.reduceSub, Nat.reduceLeDiff, Nat.reduceBEq]
              exact Option.some.inj hk
            · rw [if_neg eK, if_neg e1] at hk
              simp (decide := true) only [go_sem, reduceIte, reduceCtorEq, Nat.reduceEqDiff, Nat.reduceAdd, Nat.reduceMul, Nat.reduceSub, Nat.reduceLeDiff, Nat.reduceBEq, hmk, e1, eK]
              exact hk
          · have hV2 : viewL (L1.set at_ r2) = (putV (viewL L) s.gloss at_).set at_ (r1.gloss, turnP inn r1.ps (pt e.id i) q) := by
              rw [← hv1]; simp [viewL, List.map_set, r2]
            have hg1 : (putV (viewL L) s.gloss at_)[at_]? = some (r1.gloss, r1.ps) := by
              rw [← hv1]; simp [viewL, hr1]
            have hvg : (viewL L).map (·.1) = L.map (·.gloss) := by simp [viewL]
            have hvl : (viewL L).length = L.length := by simp [viewL]
            apply dw_cond; (simp (decide := true) only [go_sem, reduceIte, reduceCtorEq, Nat.reduceEqDiff, Nat.reduceAdd, Nat.reduceMul, Nat.reduceSub, Nat.reduceLeDiff, Nat.reduceBEq]; rfl)
            · intro hz
              have hz' : turnP inn r1.ps (pt e.id i) q = [] := by simpa using hz
              have hok2 := ixM_ok hX hL2 j1
              have hfg2 : ∀ (m k : Nat), m < 1000 → (ixM X (L1.set at_ r2) j1 k).map (Dl.Rows.tr (fgt m)) = ixM X (L1.set at_ r2) j1 k := fun m k hm => hok2.fgt hm k
              have hl2 : (L1.set at_ r2).length = L1.length := List.length_set
              have hlm2 : ((L1.set at_ r2).map irow).length = (L1.set at_ r2).length := by simp
              (repeat (first | (refine dw_seq ?_) | (refine dw_block ?_) | ((first | (refine dw_reg (N := 67) rfl (by kernel_rfl) ?_) | (apply dw_drw (id := 5) (N := 67) [(0, .light), (1, .light), (2, .light), (3, .light), (4, .light), (5, .light), (6, .step), (7, .light)]; kernel_rfl; rfl; kernel_rfl; (repeat (first | exact Picks.nil | (apply Picks.cons; rfl)))) | (apply dw_drw (id := 10) (N := 67) [(0, .light), (1, .light), (2, .light), (3, .light), (4, .light), (5, .light), (6, .light), (7, .light), (8, .light), (9, .light), (10, .step)]; kernel_rfl; rfl; kernel_rfl; (repeat (first | exact Picks.nil | (apply Picks.cons; rfl)))) | (apply dw_drw (id := 12) (N := 67) [(0, .light), (1, .light), (2, .light), (3, .light), (4, .light), (5, .light), (6, .step)]; kernel_rfl; rfl; kernel_rfl; (repeat (first | exact Picks.nil | (apply Picks.cons; rfl)))) | (refine dw_skip ?_) | (refine dw_exit ?_)); simp (decide := true) only [go_sem, reduceIte, reduceCtorEq, Nat.reduceEqDiff, Nat.reduceAdd, Nat.reduceMul, Nat.reduceSub, Nat.reduceLeDiff, Nat.reduceBEq, hXe, hXe2, hXlt, Sense.enc, Entry.enc])))
              have htk := takeR_E (X + NB) 1000 (by omega) (Nat.le_refl _) (by omega) (carry X (ixM X (L1.set at_ r2) j1 X) (ixM X (L1.set at_ r2) j1)) (carry_ok hok2 (fun r hr => (hok2 X r hr).2)) ((L1.set at_ r2).map irow) ((L1.set at_ r2).map (·.gloss)) j1 s.gloss
                (by rw [hlm2]; omega) (by simp) (irow_get _) (irow_sz _) (by rw [carry_x, ixM_x, hlm2]) (by rw [carry_mid ⟨Nat.le_refl _, by omega⟩, ixM_r (by omega)])
              refine CallC.eff (caps := []) [X] htk (by simp (decide := true) only [go_sem, reduceIte, reduceCtorEq, Nat.reduceEqDiff, Nat.reduceAdd, Nat.reduceMul, Nat.reduceSub, Nat.reduceLeDiff, Nat.reduceBEq]) (DLeL.of_eq (by simp (decide := true) only [go_sem, reduceIte, reduceCtorEq, Nat.reduceEqDiff, Nat.reduceAdd, Nat.reduceMul, Nat.reduceSub, Nat.reduceLeDiff, Nat.reduceBEq])) (carry_call hok2 hXm (by simp (decide := true) only [go_sem, reduceIte, reduceCtorEq, Nat.reduceEqDiff, Nat.reduceAdd, Nat.reduceMul, Nat.reduceSub, Nat.reduceLeDiff, Nat.reduceBEq, hXe, hfg2]) (fun r hr => (hok2 X r hr).2) (fun k hk => ?_)) ⟨by simpa using hXm, fun m hm => by simp at hm; subst hm; simp; omega⟩ ?_
              · have hmk : ∀ m, m < 1000 → (k = m) = False := fun m hm => by simp; have := hk.1; omega
                simp (decide := true) only [go_sem, reduceIte, reduceCtorEq, Nat.reduceEqDiff, Nat.reduceAdd, Nat.reduceMul, Nat.reduceSub, Nat.reduceLeDiff, Nat.reduceBEq, hmk, hfg2]
              rintro r H3 ⟨i3, j3, hb3, rfl, h3x, h3r, h3k⟩
              rw [hlm2] at hb3
              let L3 : List IRow := if ((L1.set at_ r2).map (·.gloss))[i3]?.map (fun q => cmpS q s.gloss) = some 0 then (L1.set at_ r2).take i3 ++ (L1.set at_ r2).drop (i3 + 1) else L1.set at_ r2
              have hv3 : viewL L3 = takeV (viewL (L1.set at_ r2)) s.gloss i3 := by
                have hvg0 : (viewL (L1.set at_ r2)).map (·.1) = (L1.set at_ r2).map (·.gloss) := by simp [viewL]; rfl
                simp only [L3, takeV, hvg0]
                split <;> simp [viewL, List.map_take, List.map_drop]
              have hsub3 : ∀ x ∈ L3, x ∈ L1.set at_ r2 := fun x hx => by
                simp only [L3] at hx
                split at hx
                · rcases List.mem_append.1 hx with h | h
                  · exact List.mem_of_mem_take h
                  · exact List.mem_of_mem_drop h
                · exact hx
              have hrow3 : takeRw ((L1.set at_ r2).map irow) ((L1.set at_ r2).map (·.gloss)) s.gloss i3 = L3.map irow := by
                simp only [takeRw, L3]
                split <;> simp [List.map_take, List.map_drop]
              have hll3 : L3.length ≤ L1.length := by
                simp only [L3]
                split <;> simp <;> omega
              have hnd3 : (L3.map (·.k)).Nodup := by
                have h0 := hL2.nd
                simp only [L3]
                split
                · rw [List.map_append]
                  refine List.Nodup.sublist ?_ h0
                  rw [← List.map_append]
                  refine List.Sublist.map _ ?_
                  conv => rhs; rw [← List.take_append_drop i3 (L1.set at_ r2)]
                  exact List.Sublist.append (List.Sublist.refl _) (by rw [← List.drop_drop]; exact List.drop_sublist _ _)
                · exact h0
              have hL3 : IxOk (B + i + 1) L3 := ⟨hL2.hB, hnd3, fun x hx => hL2.rng x (hsub3 x hx), by omega, fun x hx => hL2.lens x (hsub3 x hx)⟩
              rw [hrow3] at h3x h3r
              have hl3m : (L3.map irow).length = L3.length := by simp
              rw [hl3m] at h3x
              have w4 : ∀ bx, callMemAft bx H3 [X] (some 65) 4 = (bx 4).map (Dl.Rows.tr (aft [X] (some 65))) := fun bx => aft_low (by omega) (by omega) (by simp)
              have wX : ∀ bx, callMemAft bx H3 [X] (some 65) X = some [[.ba 1000 2 0 L3.length (L3.length + j3), .c (.fn 41 [])]] := fun bx => aft_x (by simp; omega) (fun r hr => by
                injection hr with hr; subst hr
                intro x hx; rw [List.mem_singleton.1 hx]; exact ⟨⟨Nat.le_refl _, by omega⟩, trivial, trivial⟩) h3x
              have w1 : ∀ bx, callMemAft bx H3 [X] (some 65) 1000 = some (L3.map irow ++ anyRows j3 2) := fun bx => aft_mid ⟨Nat.le_refl _, by omega⟩ (by omega) (by simp) h3r (fun r hr => by injection hr with hr; subst hr; exact rrows_mids hL3 j3)
              have wk1 : ∀ bx k, mid k → k ≠ 1000 → callMemAft bx H3 [X] (some 65) k = ixM X (L1.set at_ r2) j1 k := fun bx k hk hkn => aft_mid hk (fun e => hXm (e ▸ hk)) (by simp; have := hk.1; omega) (by rw [h3k k hk hkn, carry_mid hk]) (fun r hr => (hok2 k r hr).2)
              simp (decide := true) only [go_sem, reduceIte, reduceCtorEq, Nat.reduceEqDiff, Nat.reduceAdd, Nat.reduceMul, Nat.reduceSub, Nat.reduceLeDiff, Nat.reduceBEq, hXlt]
              (repeat (first | (refine dw_seq ?_) | (refine dw_block ?_) | ((first | (refine dw_reg (N := 67) rfl (by kernel_rfl) ?_) | (apply dw_drw (id := 5) (N := 67) [(0, .light), (1, .light), (2, .light), (3, .light), (4, .light), (5, .light), (6, .step), (7, .light)]; kernel_rfl; rfl; kernel_rfl; (repeat (first | exact Picks.nil | (apply Picks.cons; rfl)))) | (apply dw_drw (id := 10) (N := 67) [(0, .light), (1, .light), (2, .light), (3, .light), (4, .light), (5, .light), (6, .light), (7, .light), (8, .light), (9, .light), (10, .step)]; kernel_rfl; rfl; kernel_rfl; (repeat (first | exact Picks.nil | (apply Picks.cons; rfl)))) | (apply dw_drw (id := 12) (N := 67) [(0, .light), (1, .light), (2, .light), (3, .light), (4, .light), (5, .light), (6, .step)]; kernel_rfl; rfl; kernel_rfl; (repeat (first | exact Picks.nil | (apply Picks.cons; rfl)))) | (refine dw_skip ?_) | (refine dw_exit ?_)); simp (decide := true) only [go_sem, reduceIte, reduceCtorEq, Nat.reduceEqDiff, Nat.reduceAdd, Nat.reduceMul, Nat.reduceSub, Nat.reduceLeDiff, Nat.reduceBEq, hw])))
              refine ⟨(i + 1, L3, j3), ⟨by simp only; omega, hL3, by simp only; omega, fun x hx => by
                simp only at hx ⊢
                rcases List.mem_or_eq_of_mem_set (hsub3 x hx) with hx | rfl
                · have := hls1 x hx; omega
                · exact hps3, ?_⟩, by simp only; omega, sub_kn rfl (by simp (decide := true) only [go_sem, reduceIte, reduceCtorEq, Nat.reduceEqDiff, Nat.reduceAdd, Nat.reduceMul, Nat.reduceSub, Nat.reduceLeDiff, Nat.reduceBEq, hXlt, hXe, hXe2]) (fun k r hk => ?_)⟩
              · refine ⟨viewL L, hV, ?_⟩
                rw [hs1]
                refine ⟨at_, r1.gloss, r1.ps, q, by rw [hvg, hvl]; exact hb1, hg1, hq, ?_⟩
                rw [if_pos hz']
                have hV3 : viewL (L1.set at_ r2) = (putV (viewL L) s.gloss at_).set at_ (r1.gloss, []) := by rw [hV2, hz']
                have hbl : (putV (viewL L) s.gloss at_).length = (L1.set at_ r2).length := by rw [← hv1]; simp [viewL]
                have hgl : ((putV (viewL L) s.gloss at_).set at_ (r1.gloss, ([] : List Part))).map (·.1) = (L1.set at_ r2).map (·.gloss) := by rw [← hV3]; simp [viewL]; rfl
                exact ⟨i3, by rw [hbl, hgl]; exact hb3, by rw [hv3, hV3]⟩
              · by_cases e4 : k = 4
                · subst e4
                  rw [← hk]
                  simp (decide := true) only [go_sem, reduceIte, reduceCtorEq, Nat.reduceEqDiff, Nat.reduceAdd, Nat.reduceMul, Nat.reduceSub, Nat.reduceLeDiff, Nat.reduceBEq, w4, Entry.enc]
                rw [if_neg e4] at hk
                by_cases elow : k < 1000
                · rw [(ixM_ok hX hL3 j3).low elow] at hk; cases hk
                by_cases e1 : k = 1000
                · subst e1
                  rw [ixM_r (by omega)] at hk
                  simp (decide := true) only [go_sem, reduceIte, reduceCtorEq, Nat.reduceEqDiff, Nat.reduceAdd, Nat.reduceMul, Nat.reduceSub, Nat.reduceLeDiff, Nat.reduceBEq, w1]
                  exact Option.some.inj hk
                by_cases eX : k = X
                · subst eX
                  rw [ixM_x] at hk
                  simp (decide := true) only [go_sem, reduceIte, reduceCtorEq, Nat.reduceEqDiff, Nat.reduceAdd, Nat.reduceMul, Nat.reduceSub, Nat.reduceLeDiff, Nat.reduceBEq, wX]
                  exact Option.some.inj hk
                · have hkm : mid k ∧ ixM X (L1.set at_ r2) j1 k = some r := by
                    simp only [ixM, if_neg eX, if_neg e1, Option.map_eq_some_iff] at hk
                    obtain ⟨x, hx, rfl⟩ := hk
                    have hxk := List.find?_some hx
                    simp only [beq_iff_eq] at hxk
                    subst hxk
                    have hxm := hsub3 x (List.mem_of_find?_eq_some hx)
                    have := hL2.rng x hxm
                    exact ⟨⟨by omega, by omega⟩, ixM_k j1 hL2 hXm hxm⟩
                  have q9 := fun bx => wk1 bx k hkm.1 e1
                  simp (decide := true) only [go_sem, reduceIte, reduceCtorEq, Nat.reduceEqDiff, Nat.reduceAdd, Nat.reduceMul, Nat.reduceSub, Nat.reduceLeDiff, Nat.reduceBEq, q9]
                  exact hkm.2
            · intro hz
              have hz' : ¬ turnP inn r1.ps (pt e.id i) q = [] := by simpa using hz
              (repeat (first | (refine dw_seq ?_) | (refine dw_block ?_) | ((first | (refine dw_reg (N := 67) rfl (by kernel_rfl) ?_) | (apply dw_drw (id := 5) (N := 67) [(0, .light), (1, .light), (2, .light), (3, .light), (4, .light), (5, .light), (6, .step), (7, .light)]; kernel_rfl; rfl; kernel_rfl; (repeat (first | exact Picks.nil | (apply Picks.cons; rfl)))) | (apply dw_drw (id := 10) (N := 67) [(0, .light), (1, .light), (2, .light), (3, .light), (4, .light), (5, .light), (6, .light), (7, .light), (8, .light), (9, .light), (10, .step)]; kernel_rfl; rfl; kernel_rfl; (repeat (first | exact Picks.nil | (apply Picks.cons; rfl)))) | (apply dw_drw (id := 12) (N := 67) [(0, .light), (1, .light), (2, .light), (3, .light), (4, .light), (5, .light), (6, .step)]; kernel_rfl; rfl; kernel_rfl; (repeat (first | exact Picks.nil | (apply Picks.cons; rfl)))) | (refine dw_skip ?_) | (refine dw_exit ?_)); simp (decide := true) only [go_sem, reduceIte, reduceCtorEq, Nat.reduceEqDiff, Nat.reduceAdd, Nat.reduceMul, Nat.reduceSub, Nat.reduceLeDiff, Nat.reduceBEq, hw])))
              refine ⟨(i + 1, L1.set at_ r2, j1), ⟨by simp only; omega, hL2, by simp only [List.length_set]; omega, fun x hx => by
                simp only at hx ⊢
                rcases List.mem_or_eq_of_mem_set hx with hx | rfl
                · have := hls1 x hx; omega
                · exact hps3, ?_⟩, by simp only; omega, sub_kn rfl (by simp (decide := true) only [go_sem, reduceIte, reduceCtorEq, Nat.reduceEqDiff, Nat.reduceAdd, Nat.reduceMul, Nat.reduceSub, Nat.reduceLeDiff, Nat.reduceBEq]) (fun k r hk => ?_)⟩
              · refine ⟨viewL L, hV, ?_⟩
                rw [hs1]
                refine ⟨at_, r1.gloss, r1.ps, q, by rw [hvg, hvl]; exact hb1, hg1, hq, ?_⟩
                rw [if_neg hz']
                exact hV2
              · by_cases e7 : k = 7
                · subst e7
                  have hk' : ixM X (L1.set at_ r2) j1 7 = some r := hk
                  rw [(ixM_ok hX hL2 j1).low (by omega)] at hk'; cases hk'
                simp (decide := true) only [go_sem, reduceIte, reduceCtorEq, Nat.reduceEqDiff, Nat.reduceAdd, Nat.reduceMul, Nat.reduceSub, Nat.reduceLeDiff, Nat.reduceBEq]
                rw [if_neg e7]
                exact hk
    · simp
  · have hd : decide ((i : Int) < (e.senses.length : Int)) = false := by simpa using hge
    have hie : i = e.senses.length := by omega
    subst hie
    (repeat (first | (refine dw_seq ?_) | (refine dw_block ?_) | ((first | (refine dw_reg (N := 67) rfl (by kernel_rfl) ?_) | (apply dw_drw (id := 5) (N := 67) [(0, .light), (1, .light), (2, .light), (3, .light), (4, .light), (5, .light), (6, .step), (7, .light)]; kernel_rfl; rfl; kernel_rfl; (repeat (first | exact Picks.nil | (apply Picks.cons; rfl)))) | (apply dw_drw (id := 10) (N := 67) [(0, .light), (1, .light), (2, .light), (3, .light), (4, .light), (5, .light), (6, .light), (7, .light), (8, .light), (9, .light), (10, .step)]; kernel_rfl; rfl; kernel_rfl; (repeat (first | exact Picks.nil | (apply Picks.cons; rfl)))) | (apply dw_drw (id := 12) (N := 67) [(0, .light), (1, .light), (2, .light), (3, .light), (4, .light), (5, .light), (6, .step)]; kernel_rfl; rfl; kernel_rfl; (repeat (first | exact Picks.nil | (apply Picks.cons; rfl)))) | (refine dw_skip ?_) | (refine dw_exit ?_)); simp (decide := true) only [go_sem, reduceIte, reduceCtorEq, Nat.reduceEqDiff, Nat.reduceAdd, Nat.reduceMul, Nat.reduceSub, Nat.reduceLeDiff, Nat.reduceBEq, hd])))
    apply dw_cond; (simp (decide := true) only [go_sem, reduceIte, reduceCtorEq, Nat.reduceEqDiff, Nat.reduceAdd, Nat.reduceMul, Nat.reduceSub, Nat.reduceLeDiff, Nat.reduceBEq]; rfl)
    · simp
    intro _
    (repeat (first | (refine dw_seq ?_) | (refine dw_block ?_) | ((first | (refine dw_reg (N := 67) rfl (by kernel_rfl) ?_) | (apply dw_drw (id := 5) (N := 67) [(0, .light), (1, .light), (2, .light), (3, .light), (4, .light), (5, .light), (6, .step), (7, .light)]; kernel_rfl; rfl; kernel_rfl; (repeat (first | exact Picks.nil | (apply Picks.cons; rfl)))) | (apply dw_drw (id := 10) (N := 67) [(0, .light), (1, .light), (2, .light), (3, .light), (4, .light), (5, .light), (6, .light), (7, .light), (8, .light), (9, .light), (10, .step)]; kernel_rfl; rfl; kernel_rfl; (repeat (first | exact Picks.nil | (apply Picks.cons; rfl)))) | (apply dw_drw (id := 12) (N := 67) [(0, .light), (1, .light), (2, .light), (3, .light), (4, .light), (5, .light), (6, .step)]; kernel_rfl; rfl; kernel_rfl; (repeat (first | exact Picks.nil | (apply Picks.cons; rfl)))) | (refine dw_skip ?_) | (refine dw_exit ?_)); simp (decide := true) only [go_sem, reduceIte, reduceCtorEq, Nat.reduceEqDiff, Nat.reduceAdd, Nat.reduceMul, Nat.reduceSub, Nat.reduceLeDiff, Nat.reduceBEq])))
    exact ⟨L, jr, hV, hL, by rw [if_neg (by omega)], fun k hk => by rw [if_neg (by omega)]⟩
end Go.Proofs.Ytffcabenoakmgaa

/- Plain laws of sorted rows: what one sense turns is what the reference's put and take turn. -/
namespace Go.Proofs.Ytffcabenoakmgaa
open Go.Dl

theorem strLt_iff (a b : ByteArray) : strLt a b = true ↔ a.data.toList < b.data.toList := by
  unfold strLt; rw [bytesLess_eq, ByteArray.toList_eq, ByteArray.toList_eq]; simp
theorem strLt_irrefl (a : ByteArray) : strLt a a = false := by
  cases h : strLt a a with
  | false => rfl
  | true => exact absurd ((strLt_iff a a).1 h) (List.lt_irrefl _)
theorem strLt_trans {a b c : ByteArray} (h : strLt a b = true) (k : strLt b c = true) : strLt a c = true :=
  (strLt_iff a c).2 (List.lt_trans ((strLt_iff a b).1 h) ((strLt_iff b c).1 k))
theorem strLt_tri {a b : ByteArray} (h : strLt a b = false) (k : strLt b a = false) : a = b := by
  apply Go.WideShapes.bytes_inj
  have h1 : ¬ a.data.toList < b.data.toList := fun e => by rw [(strLt_iff a b).2 e] at h; cases h
  have h2 : ¬ b.data.toList < a.data.toList := fun e => by rw [(strLt_iff b a).2 e] at k; cases k
  exact List.le_antisymm (List.not_lt.1 h2) (List.not_lt.1 h1)
theorem strLt_asymm {a b : ByteArray} (h : strLt a b = true) : strLt b a = false := by
  cases k : strLt b a with
  | false => rfl
  | true => have := strLt_trans h k; rw [strLt_irrefl] at this; cases this

theorem cmpS_lt (a b : ByteArray) : cmpS a b < 0 ↔ strLt a b = true := by
  unfold cmpS
  cases strLt a b
  · simp; split <;> omega
  · simp
theorem cmpS_eq (a b : ByteArray) : cmpS a b = 0 ↔ a = b := by
  unfold cmpS
  cases h : strLt a b
  · rw [beq_bytes]; simp
  · simp; intro e; subst e; rw [strLt_irrefl] at h; cases h

theorem cmpP_lt {q p : Part} (hq : q.alt = 0) (hp : p.alt = 0) : cmpP q p < 0 ↔ q.lt p = true := by
  simp only [cmpP, firstNZ, cmpI, Part.lt, hq, hp]
  by_cases h1 : q.entry < p.entry
  · simp [h1]
  · by_cases h2 : p.entry < q.entry
    · have : ¬ q.entry = p.entry := by omega
      simp [h1, h2, this]
    · have e : q.entry = p.entry := by omega
      by_cases h3 : q.sense < p.sense
      · simp [e, h3]
      · by_cases h4 : p.sense < q.sense <;> simp [e, h3, h4]
theorem cmpP_eq {q p : Part} (hq : q.alt = 0) (hp : p.alt = 0) : cmpP q p = 0 ↔ q = p := by
  rw [part_ext]
  simp only [cmpP, firstNZ, cmpI, hq, hp]
  by_cases h1 : q.entry < p.entry
  · have : ¬ q.entry = p.entry := by omega
    simp [h1, this]
  · by_cases h2 : p.entry < q.entry
    · have : ¬ q.entry = p.entry := by omega
      simp [h1, h2, this]
    · have e : q.entry = p.entry := by omega
      by_cases h3 : q.sense < p.sense
      · have : ¬ q.sense = p.sense := by omega
        simp [e, h3, this]
      · by_cases h4 : p.sense < q.sense
        · have : ¬ q.sense = p.sense := by omega
          simp [e, h3, h4, this]
        · have : q.sense = p.sense := by omega
          simp [e, this]

theorem Part.lt_iff (a b : Part) : a.lt b = true ↔ a.entry < b.entry ∨ (a.entry = b.entry ∧ a.sense < b.sense) := by simp [Part.lt]
theorem Part.lt_irrefl (a : Part) : a.lt a = false := by simp [Part.lt]
theorem Part.lt_trans {a b c : Part} (h : a.lt b = true) (k : b.lt c = true) : a.lt c = true := by
  rw [Part.lt_iff] at *; omega
theorem Part.lt_tri {a b : Part} (ha : a.alt = 0) (hb : b.alt = 0) (h : a.lt b = false) (k : b.lt a = false) : a = b := by
  rw [part_ext]
  have h1 : ¬ (a.lt b = true) := by simp [h]
  have h2 : ¬ (b.lt a = true) := by simp [k]
  rw [Part.lt_iff] at h1 h2
  omega

structure PSorted (ps : List Part) : Prop where
  alt : ∀ p ∈ ps, p.alt = 0
  pw : ps.Pairwise fun a b => a.lt b = true

theorem pw_get {α : Type} {R : α → α → Prop} {l : List α} (h : l.Pairwise R) {i j : Nat} {a b : α} (hij : i < j) (hi : l[i]? = some a) (hj : l[j]? = some b) : R a b := by
  obtain ⟨h1, rfl⟩ := List.getElem?_eq_some_iff.1 hi
  obtain ⟨h2, rfl⟩ := List.getElem?_eq_some_iff.1 hj
  exact List.pairwise_iff_getElem.1 h i j h1 h2 hij

theorem split_at {α : Type} {l : List α} {i : Nat} {x : α} (h : l[i]? = some x) : l = l.take i ++ x :: l.drop (i + 1) := by
  obtain ⟨h1, h2⟩ := List.getElem?_eq_some_iff.1 h
  rw [← h2, List.getElem_cons_drop, List.take_append_drop]

theorem lows_bs {ps : List Part} {p : Part} {q : Nat} (h : PSorted ps) (hp : p.alt = 0) (hq : BsOk (bsF ps p) ps.length q) :
    (∀ (j : Nat) x, j < q → ps[j]? = some x → x.lt p = true) ∧ (∀ (j : Nat) x, q ≤ j → ps[j]? = some x → x.lt p = false) := by
  obtain ⟨h1, h2, h3⟩ := hq
  constructor
  · intro j x hj hx
    obtain ⟨y, hy⟩ : ∃ y, ps[q - 1]? = some y := ⟨ps[q - 1]'(by omega), List.getElem?_eq_getElem (by omega)⟩
    have hy2 : y.lt p = true := by
      have := h2 (by omega)
      simp only [bsF, hy] at this
      exact (cmpP_lt (h.alt y (List.mem_of_getElem? hy)) hp).1 this
    by_cases e : j = q - 1
    · subst e; rw [hx] at hy; injection hy with hy; subst hy; exact hy2
    · exact Part.lt_trans (pw_get h.pw (by omega) hx hy) hy2
  · intro j x hj hx
    have hjl : j < ps.length := (List.getElem?_eq_some_iff.1 hx).1
    obtain ⟨y, hy⟩ : ∃ y, ps[q]? = some y := ⟨ps[q]'(by omega), List.getElem?_eq_getElem (by omega)⟩
    have hy2 : y.lt p = false := by
      have := h3 (by omega)
      simp only [bsF, hy] at this
      cases hc : y.lt p with
      | false => rfl
      | true => have := (cmpP_lt (h.alt y (List.mem_of_getElem? hy)) hp).2 hc; omega
    by_cases e : j = q
    · subst e; rw [hx] at hy; injection hy with hy; subst hy; exact hy2
    · have := pw_get h.pw (show q < j by omega) hy hx
      cases hc : x.lt p with
      | false => rfl
      | true => have := Part.lt_trans this hc; rw [hy2] at this; cases this

theorem putAt_ins {ps : List Part} {p : Part} {q : Nat} (h : PSorted ps) (hp : p.alt = 0) (hq : BsOk (bsF ps p) ps.length q) : putAt ps p q = ins ps p := by
  obtain ⟨g1, g2⟩ := lows_bs h hp hq
  have hl : lows ps p = q := lows_eq ps p q g1 hq.1 fun x hx => g2 q x (Nat.le_refl _) hx
  unfold putAt ins
  rw [hl]
  cases hx : ps[q]? with
  | none => simp
  | some x =>
    have he := cmpP_eq (h.alt x (List.mem_of_getElem? hx)) hp
    by_cases e : x = p
    · subst e
      simp only [Option.map_some, he.2 rfl, if_true]
      obtain ⟨h1, h2⟩ := List.getElem?_eq_some_iff.1 hx
      rw [← h2, List.getElem_cons_drop, List.take_append_drop]
    · have : ¬ cmpP x p = 0 := fun c => e (he.1 c)
      simp [this, e]

theorem takeAt_keep {ps : List Part} {p : Part} {q : Nat} (h : PSorted ps) (hp : p.alt = 0) (hq : BsOk (bsF ps p) ps.length q) : takeAt ps p q = keepP true p ps := by
  obtain ⟨g1, g2⟩ := lows_bs h hp hq
  have hne : ∀ (j : Nat) x, j ≠ q → ps[j]? = some x → x ≠ p := fun j x hj hx e => by
    subst e
    rcases Nat.lt_or_ge j q with hlt | hge
    · have := g1 j x hlt hx; rw [Part.lt_irrefl] at this; cases this
    · obtain ⟨hjl, _⟩ := List.getElem?_eq_some_iff.1 hx
      obtain ⟨y, hy⟩ : ∃ y, ps[q]? = some y := ⟨ps[q]'(by omega), List.getElem?_eq_getElem (by omega)⟩
      have h1 := pw_get h.pw (show q < j by omega) hy hx
      rw [g2 q y (Nat.le_refl _) hy] at h1; cases h1
  unfold takeAt keepP
  cases hx : ps[q]? with
  | none =>
    simp only [Option.map_none, reduceCtorEq, if_false]
    rw [List.filter_eq_self.2]
    intro a ha
    obtain ⟨j, hj⟩ := List.getElem?_of_mem ha
    have hjq : j ≠ q := fun e => by rw [e, hx] at hj; cases hj
    simpa using hne j a hjq hj
  | some x =>
    have he := cmpP_eq (h.alt x (List.mem_of_getElem? hx)) hp
    by_cases e : x = p
    · subst e
      simp only [Option.map_some, he.2 rfl, if_true]
      obtain ⟨h1, h2⟩ := List.getElem?_eq_some_iff.1 hx
      have hs : ps = ps.take q ++ x :: ps.drop (q + 1) := by rw [← h2, List.getElem_cons_drop, List.take_append_drop]
      conv => rhs; rw [hs]
      rw [List.filter_append, List.filter_cons_of_neg (by simp)]
      rw [List.filter_eq_self.2, List.filter_eq_self.2]
      · intro a ha
        obtain ⟨j, hj⟩ := List.getElem?_of_mem ha
        rw [List.getElem?_drop] at hj
        simpa using hne _ a (by omega) hj
      · intro a ha
        obtain ⟨j, hj⟩ := List.getElem?_of_mem ha
        rw [List.getElem?_take] at hj
        split at hj
        · simpa using hne j a (by omega) hj
        · cases hj
    · have hc : ¬ cmpP x p = 0 := fun c => e (he.1 c)
      simp only [Option.map_some, Option.some.injEq, hc, if_false]
      rw [List.filter_eq_self.2]
      intro a ha
      obtain ⟨j, hj⟩ := List.getElem?_of_mem ha
      by_cases hjq : j = q
      · subst hjq; rw [hx] at hj; injection hj with hj; subst hj; simpa using e
      · simpa using hne j a hjq hj

theorem PSorted.keep {ps : List Part} (h : PSorted ps) (b : Bool) (p : Part) : PSorted (keepP b p ps) :=
  ⟨fun x hx => h.alt x (List.mem_filter.1 hx).1, h.pw.filter _⟩

theorem ins_mem {ps : List Part} {p x : Part} (h : x ∈ ins ps p) : x ∈ ps ∨ x = p := by
  unfold ins at h
  rcases List.mem_append.1 h with h | h
  · exact .inl (List.mem_of_mem_take h)
  · rcases List.mem_cons.1 h with h | h
    · exact .inr h
    · exact .inl (List.mem_of_mem_drop h)

theorem mem_ins {ps : List Part} {p x : Part} (hp : p.alt = 0) (h : PSorted ps) (hx : x ∈ ps ∨ x = p) : x ∈ ins ps p := by
  unfold ins
  rcases hx with hx | rfl
  · split
    · rename_i he
      by_cases e : x = p
      · subst e; simp
      · rw [split_at he] at hx
        exact hx
    · rw [← List.take_append_drop (lows ps p) ps] at hx
      rcases List.mem_append.1 hx with hx | hx
      · exact List.mem_append_left _ hx
      · exact List.mem_append_right _ (List.mem_cons_of_mem _ hx)
  · simp

/-- What stands below p, and what does not. -/
theorem lows_spec {ps : List Part} (h : PSorted ps) (p : Part) : (∀ (j : Nat) x, j < lows ps p → ps[j]? = some x → x.lt p = true) ∧ (∀ (j : Nat) x, lows ps p ≤ j → ps[j]? = some x → x.lt p = false) := by
  induction ps with
  | nil => exact ⟨fun j x hj => by simp [lows] at hj, fun j x _ hx => by simp at hx⟩
  | cons a l ih =>
    have hp := h.pw
    rw [List.pairwise_cons] at hp
    have hl : PSorted l := ⟨fun x hx => h.alt x (List.mem_cons_of_mem _ hx), hp.2⟩
    obtain ⟨i1, i2⟩ := ih hl
    cases ha : a.lt p with
    | true =>
      have e : lows (a :: l) p = lows l p + 1 := by simp [lows, ha]
      rw [e]
      constructor
      · intro j x hj hx
        cases j with
        | zero => simp at hx; subst hx; exact ha
        | succ j => exact i1 j x (by omega) (by simpa using hx)
      · intro j x hj hx
        cases j with
        | zero => omega
        | succ j => exact i2 j x (by omega) (by simpa using hx)
    | false =>
      have e : lows (a :: l) p = 0 := by simp [lows, ha]
      rw [e]
      refine ⟨fun j x hj => by omega, fun j x _ hx => ?_⟩
      cases j with
      | zero => simp at hx; subst hx; exact ha
      | succ j =>
        have h1 := hp.1 x (List.mem_of_getElem? (i := j) (by simpa using hx))
        cases hc : x.lt p with
        | false => rfl
        | true => have := Part.lt_trans h1 hc; rw [ha] at this; cases this

theorem PSorted.ins {ps : List Part} (h : PSorted ps) {p : Part} (hp : p.alt = 0) : PSorted (ins ps p) := by
  obtain ⟨g1, g2⟩ := lows_spec h p
  refine ⟨fun x hx => (ins_mem hx).elim (h.alt x) (fun e => e ▸ hp), ?_⟩
  unfold Go.Proofs.Ytffcabenoakmgaa.ins
  have hk : ∀ x ∈ ps.drop (if ps[lows ps p]? = some p then lows ps p + 1 else lows ps p), p.lt x = true := fun x hx => by
    obtain ⟨j, hj⟩ := List.getElem?_of_mem hx
    rw [List.getElem?_drop] at hj
    have hxm := List.mem_of_getElem? hj
    split at hj
    · rename_i he
      have := pw_get h.pw (show lows ps p < lows ps p + 1 + j by omega) he hj
      exact this
    · rename_i he
      have h1 := g2 _ x (by omega) hj
      cases hc : p.lt x with
      | true => rfl
      | false =>
        have e := Part.lt_tri (h.alt x hxm) hp h1 hc
        subst e
        cases j with
        | zero => exact absurd hj he
        | succ j =>
          obtain ⟨hl, _⟩ := List.getElem?_eq_some_iff.1 hj
          have hy : ps[lows ps x]? = some (ps[lows ps x]'(by omega)) := List.getElem?_eq_getElem (by omega)
          have h3 := pw_get h.pw (show lows ps x < lows ps x + (j + 1) by omega) hy hj
          rw [g2 _ _ (Nat.le_refl _) hy] at h3; cases h3
  have ht : ∀ x ∈ ps.take (lows ps p), x.lt p = true := fun x hx => by
    obtain ⟨j, hj⟩ := List.getElem?_of_mem hx
    rw [List.getElem?_take] at hj
    split at hj
    · rename_i hl; exact g1 j x hl hj
    · cases hj
  rw [List.pairwise_append]
  refine ⟨h.pw.take, List.pairwise_cons.2 ⟨hk, h.pw.drop⟩, fun a ha b hb => ?_⟩
  rcases List.mem_cons.1 hb with rfl | hb
  · exact ht a ha
  · exact Part.lt_trans (ht a ha) (hk b hb)

theorem ins_ne (ps : List Part) (p : Part) : ins ps p ≠ [] := by
  unfold ins; simp
end Go.Proofs.Ytffcabenoakmgaa

/- Contracts of slices.Clone of parts. -/
namespace Go.Proofs.Ytffcabenoakmgaa
open Go.Dl
attribute [local irreducible] DW DCalls ECalls wk

theorem rowsSz_c {sz : Nat} {xs : List (List C)} (hz : ∀ r ∈ xs, r.length = sz) : RowsSz sz (xs.map (List.map T.c)) := fun r hr => by
  obtain ⟨x, hx, rfl⟩ := List.mem_map.1 hr
  simpa using hz x hx

theorem srcSl {bx : Mem} {sz : Nat} {d : D} {ys : List (List C)} (hd : d = .one (.c (.sl sz ys))) : Src bx sz d (ys.map (List.map T.c)) := by
  subst hd; exact .sl ys

--F42
set_option maxRecDepth 10000 in
theorem cloneP_E (xs : List (List C)) (hz : ∀ r ∈ xs, r.length = 3) (hl : xs.length ≤ 1000000) :
    ECalls Try.prog 42 [dv (.sl 3 xs)] noMem (fun r H' => ∃ j, r = .one (.ba 0 3 0 xs.length (xs.length + j)) ∧ H' 0 = some (xs.map (List.map T.c) ++ anyRows j 3)) := by
  refine ecalls (N := 8) (rs := [.tmp 2]) (by kernel_rfl) Try.func42 rfl rfl rfl (by simp) ?_
  cases xs with
  | nil =>
    refine dw_emp (sz := 3) 0 (by simp (decide := true) only [go_sem, reduceIte, reduceCtorEq, Nat.reduceEqDiff, Nat.reduceAdd, Nat.reduceMul, Nat.reduceSub, Nat.reduceLeDiff, Nat.reduceBEq]) ?_ (fun a cap hcap => ?_)
    · (repeat (first | (refine dw_seq ?_) | (refine dw_block ?_) | ((first | (refine dw_reg (N := 8) rfl (by kernel_rfl) ?_) | (refine dw_skip ?_) | (refine dw_exit ?_)); simp (decide := true) only [go_sem, reduceIte, reduceCtorEq, Nat.reduceEqDiff, Nat.reduceAdd, Nat.reduceMul, Nat.reduceSub, Nat.reduceLeDiff, Nat.reduceBEq])))
      apply dw_cond; (simp (decide := true) only [go_sem, reduceIte, reduceCtorEq, Nat.reduceEqDiff, Nat.reduceAdd, Nat.reduceMul, Nat.reduceSub, Nat.reduceLeDiff, Nat.reduceBEq]; rfl)
      · intro _
        (repeat (first | (refine dw_seq ?_) | (refine dw_block ?_) | ((first | (refine dw_reg (N := 8) rfl (by kernel_rfl) ?_) | (refine dw_skip ?_) | (refine dw_exit ?_)); simp (decide := true) only [go_sem, reduceIte, reduceCtorEq, Nat.reduceEqDiff, Nat.reduceAdd, Nat.reduceMul, Nat.reduceSub, Nat.reduceLeDiff, Nat.reduceBEq])))
        refine dw_weaken (sub_zero 2 0 3 (.inl (by simp (decide := true) only [go_sem, reduceIte, reduceCtorEq, Nat.reduceEqDiff, Nat.reduceAdd, Nat.reduceMul, Nat.reduceSub, Nat.reduceLeDiff, Nat.reduceBEq]))) ?_
        refine dw_ret ?_; simp (decide := true) only [go_sem, reduceIte, reduceCtorEq, Nat.reduceEqDiff, Nat.reduceAdd, Nat.reduceMul, Nat.reduceSub, Nat.reduceLeDiff, Nat.reduceBEq]
        exact ⟨0, rfl, rfl⟩
      · simp
    · (repeat (first | (refine dw_seq ?_) | (refine dw_block ?_) | ((first | (refine dw_reg (N := 8) rfl (by kernel_rfl) ?_) | (refine dw_skip ?_) | (refine dw_exit ?_)); simp (decide := true) only [go_sem, reduceIte, reduceCtorEq, Nat.reduceEqDiff, Nat.reduceAdd, Nat.reduceMul, Nat.reduceSub, Nat.reduceLeDiff, Nat.reduceBEq])))
      apply dw_cond; (simp (decide := true) only [go_sem, reduceIte, reduceCtorEq, Nat.reduceEqDiff, Nat.reduceAdd, Nat.reduceMul, Nat.reduceSub, Nat.reduceLeDiff, Nat.reduceBEq]; rfl)
      · simp
      intro _
      refine dw_skip ?_
      simp (decide := true) only [go_sem, reduceIte, reduceCtorEq, Nat.reduceEqDiff, Nat.reduceAdd, Nat.reduceMul, Nat.reduceSub, Nat.reduceLeDiff, Nat.reduceBEq]
      refine dw_weaken (s' := kn 8 [(0, dv (.sl 3 []))] noMem) (sub_kn rfl ⟨.inr (by simp (decide := true) only [go_sem, reduceIte, reduceCtorEq, Nat.reduceEqDiff, Nat.reduceAdd, Nat.reduceMul, Nat.reduceSub, Nat.reduceLeDiff, Nat.reduceBEq]; exact DLe.emp 3 hcap), trivial⟩ (by simp [noMem])) ?_
      refine dw_seq ?_
      refine dw_regM (N := 8) [.hand] rfl (by kernel_rfl) ?_
      simp (decide := true) only [go_sem, reduceIte, reduceCtorEq, Nat.reduceEqDiff, Nat.reduceAdd, Nat.reduceMul, Nat.reduceSub, Nat.reduceLeDiff, Nat.reduceBEq]
      refine StepC.mk (Step.buildNone (sz := 3) rfl rfl (by simp (decide := true) only [go_sem, reduceIte, reduceCtorEq, Nat.reduceEqDiff, Nat.reduceAdd, Nat.reduceMul, Nat.reduceSub, Nat.reduceLeDiff, Nat.reduceBEq]) ?_)
      simp (decide := true) only [go_sem, reduceIte, reduceCtorEq, Nat.reduceEqDiff, Nat.reduceAdd, Nat.reduceMul, Nat.reduceSub, Nat.reduceLeDiff, Nat.reduceBEq]
      refine StepC.mk (Step.appendList (n := 5) (sz := 3) (by_ := 24) (rows := []) (j := 0) (ys := []) rfl rfl (by simp (decide := true) only [go_sem, reduceIte, reduceCtorEq, Nat.reduceEqDiff, Nat.reduceAdd, Nat.reduceMul, Nat.reduceSub, Nat.reduceLeDiff, Nat.reduceBEq]) (by simp (decide := true) only [go_sem, reduceIte, reduceCtorEq, Nat.reduceEqDiff, Nat.reduceAdd, Nat.reduceMul, Nat.reduceSub, Nat.reduceLeDiff, Nat.reduceBEq]) (by simp (decide := true) only [go_sem, reduceIte, reduceCtorEq, Nat.reduceEqDiff, Nat.reduceAdd, Nat.reduceMul, Nat.reduceSub, Nat.reduceLeDiff, Nat.reduceBEq]) (by simp [RowsSz]) (srcSl (ys := []) (by simp (decide := true) only [go_sem, reduceIte, reduceCtorEq, Nat.reduceEqDiff, Nat.reduceAdd, Nat.reduceMul, Nat.reduceSub, Nat.reduceLeDiff, Nat.reduceBEq])) (by simp) ?_)
      intro j'
      simp (decide := true) only [go_sem, reduceIte, reduceCtorEq, Nat.reduceEqDiff, Nat.reduceAdd, Nat.reduceMul, Nat.reduceSub, Nat.reduceLeDiff, Nat.reduceBEq]
      refine dw_weaken (sub_mv 7 0 (by omega)) ?_
      refine dw_ret ?_; simp (decide := true) only [go_sem, reduceIte, reduceCtorEq, Nat.reduceEqDiff, Nat.reduceAdd, Nat.reduceMul, Nat.reduceSub, Nat.reduceLeDiff, Nat.reduceBEq]
      exact ⟨j', rfl, rfl⟩
  | cons x xs =>
    (repeat (first | (refine dw_seq ?_) | (refine dw_block ?_) | ((first | (refine dw_reg (N := 8) rfl (by kernel_rfl) ?_) | (refine dw_skip ?_) | (refine dw_exit ?_)); simp (decide := true) only [go_sem, reduceIte, reduceCtorEq, Nat.reduceEqDiff, Nat.reduceAdd, Nat.reduceMul, Nat.reduceSub, Nat.reduceLeDiff, Nat.reduceBEq])))
    apply dw_cond; (simp (decide := true) only [go_sem, reduceIte, reduceCtorEq, Nat.reduceEqDiff, Nat.reduceAdd, Nat.reduceMul, Nat.reduceSub, Nat.reduceLeDiff, Nat.reduceBEq]; rfl)
    · simp
    intro _
    refine dw_skip ?_
    simp (decide := true) only [go_sem, reduceIte, reduceCtorEq, Nat.reduceEqDiff, Nat.reduceAdd, Nat.reduceMul, Nat.reduceSub, Nat.reduceLeDiff, Nat.reduceBEq]
    refine dw_seq ?_
    refine dw_regM (N := 8) [.hand] rfl (by kernel_rfl) ?_
    simp (decide := true) only [go_sem, reduceIte, reduceCtorEq, Nat.reduceEqDiff, Nat.reduceAdd, Nat.reduceMul, Nat.reduceSub, Nat.reduceLeDiff, Nat.reduceBEq]
    refine StepC.mk (Step.buildNone (sz := 3) rfl rfl (by simp (decide := true) only [go_sem, reduceIte, reduceCtorEq, Nat.reduceEqDiff, Nat.reduceAdd, Nat.reduceMul, Nat.reduceSub, Nat.reduceLeDiff, Nat.reduceBEq]) ?_)
    simp (decide := true) only [go_sem, reduceIte, reduceCtorEq, Nat.reduceEqDiff, Nat.reduceAdd, Nat.reduceMul, Nat.reduceSub, Nat.reduceLeDiff, Nat.reduceBEq]
    refine StepC.mk (Step.appendList (n := 5) (sz := 3) (by_ := 24) (rows := []) (j := 0) (ys := (x :: xs).map (List.map T.c)) rfl rfl (by simp (decide := true) only [go_sem, reduceIte, reduceCtorEq, Nat.reduceEqDiff, Nat.reduceAdd, Nat.reduceMul, Nat.reduceSub, Nat.reduceLeDiff, Nat.reduceBEq]) (by simp (decide := true) only [go_sem, reduceIte, reduceCtorEq, Nat.reduceEqDiff, Nat.reduceAdd, Nat.reduceMul, Nat.reduceSub, Nat.reduceLeDiff, Nat.reduceBEq]) (by simp (decide := true) only [go_sem, reduceIte, reduceCtorEq, Nat.reduceEqDiff, Nat.reduceAdd, Nat.reduceMul, Nat.reduceSub, Nat.reduceLeDiff, Nat.reduceBEq]) (by simp [RowsSz]) (srcSl (by simp (decide := true) only [go_sem, reduceIte, reduceCtorEq, Nat.reduceEqDiff, Nat.reduceAdd, Nat.reduceMul, Nat.reduceSub, Nat.reduceLeDiff, Nat.reduceBEq])) (by simp only [List.length_map, List.length_nil]; omega) ?_)
    intro j'
    simp (decide := true) only [go_sem, reduceIte, reduceCtorEq, Nat.reduceEqDiff, Nat.reduceAdd, Nat.reduceMul, Nat.reduceSub, Nat.reduceLeDiff, Nat.reduceBEq]
    refine dw_weaken (sub_mv 7 0 (by omega)) ?_
    refine dw_ret ?_; simp (decide := true) only [go_sem, reduceIte, reduceCtorEq, Nat.reduceEqDiff, Nat.reduceAdd, Nat.reduceMul, Nat.reduceSub, Nat.reduceLeDiff, Nat.reduceBEq]
    exact ⟨j', by simp, by simp⟩
end Go.Proofs.Ytffcabenoakmgaa

/- Contract of the index's open: a copy of some rows. -/
namespace Go.Proofs.Ytffcabenoakmgaa
open Go.Dl
attribute [local irreducible] DW DCalls ECalls wk

theorem ixM_mids {X B : Nat} {L : List IRow} (h : IxOk B L) (jr : Nat) : ∀ k r, ixM X L jr k = some r → Dl.Rows.Mids r := fun k r hk => by
  have hNB := NB_big
  unfold ixM at hk
  split at hk
  · injection hk with hk; subst hk
    intro x hx
    rw [List.mem_singleton.1 hx]
    exact ⟨⟨Nat.le_refl _, by omega⟩, trivial, trivial⟩
  · split at hk
    · injection hk with hk; subst hk; exact rrows_mids h jr
    · simp only [Option.map_eq_some_iff] at hk
      obtain ⟨q, hq, rfl⟩ := hk
      exact kmem_mids q

theorem ixM_tr {X B : Nat} {L : List IRow} (h : IxOk B L) (jr : Nat) {r : Ren} (hr : r.Keeps) (k : Nat) : (ixM X L jr k).map (Dl.Rows.tr r) = ixM X L jr k := by
  cases hc : ixM X L jr k with
  | none => rfl
  | some x => rw [Option.map_some, Rows.tr_mids hr (ixM_mids h jr k x hc)]

theorem IxOk.snoc {k : Nat} {L : List IRow} (h : IxOk (1001 + k) L) (hk : k ≤ 4000) (hl : L.length ≤ 4000) (g : ByteArray) (ps : List Part) (j : Nat) (hp : ps.length ≤ 5000) : IxOk (1001 + (k + 1)) (L ++ [⟨g, 1001 + k, ps, j⟩]) := by
  refine ⟨by omega, ?_, fun r hr => ?_, by simp; omega, fun r hr => ?_⟩
  · rw [List.map_append, List.nodup_append]
    refine ⟨h.nd, by simp, fun a ha b hb => ?_⟩
    obtain ⟨r, hr, rfl⟩ := List.mem_map.1 ha
    have := (h.rng r hr).2
    simp at hb; omega
  · rcases List.mem_append.1 hr with hr | hr
    · have := h.rng r hr; omega
    · rw [List.mem_singleton.1 hr]; simp only; omega
  · rcases List.mem_append.1 hr with hr | hr
    · exact h.lens r hr
    · rw [List.mem_singleton.1 hr]; exact hp

theorem irows_tr {B : Nat} {L : List IRow} (h : IxOk B L) {r : Ren} (hr : ∀ k, 1001 ≤ k → k < B → r.g k = some k) : Dl.Rows.tr r (L.map irow) = L.map irow := by
  unfold Dl.Rows.tr
  rw [List.map_map]
  refine List.map_congr_left fun x hx => ?_
  have := h.rng x hx
  simp only [Function.comp, irow, T.trAll, T.tr, hr x.k this.1 this.2, T.baTo]

theorem kmem_tr (q : IRow) (r : Ren) : Dl.Rows.tr r (kmem q) = kmem q := by
  unfold kmem
  rw [Rows.tr_append, anyRows_tr]
  congr 1
  have e : q.ps.map pRow = (q.ps.map Part.enc).map (List.map T.c) := by rw [List.map_map]; rfl
  rw [e]; exact Rows.tr_c r _

theorem ixM_any {X k : Nat} {L : List IRow} {jr : Nat} (r : Ren) (h1 : k ≠ X) (h2 : k ≠ 1000) : (ixM X L jr k).map (Dl.Rows.tr r) = ixM X L jr k := by
  simp only [ixM, if_neg h1, if_neg h2]
  cases L.find? fun q => q.k == k with
  | none => rfl
  | some q => simp only [Option.map_some, kmem_tr]

theorem aftN_new (bx H' : Mem) (m : Nat) : callMemAftM noMid bx H' [] (some m) m = (H' 0).map (Dl.Rows.tr (usfM noMid [] (some m))) := by simp [callMemAftM]
theorem aftN_out (bx H' : Mem) {m k : Nat} (h : m ≠ k) : callMemAftM noMid bx H' [] (some m) k = (bx k).map (Dl.Rows.tr (aftM noMid [] (some m))) := by simp [callMemAftM, h, not_noMid]

abbrev vRow (r : Row) : VRow := (r.gloss, r.senses)

--F32
set_option maxRecDepth 10000 in
set_option maxHeartbeats 4000000 in
theorem open_E (rows : List Row) (hl : rows.length ≤ 3000) (hls : ∀ r ∈ rows, r.senses.length ≤ 3000) :
    ECalls Try.prog 32 [dv (.sl 2 (rows.map Row.enc))] noMem
      (fun r H' => r = .one (.bx 0 2 0 0) ∧ ∃ L jr, viewL L = rows.map vRow ∧ IxOk (1001 + rows.length) L ∧ H' 0 = ixM 0 L jr 0 ∧ ∀ k, mid k → H' k = ixM 0 L jr k) := by
  have hNB := NB_big
  refine ecalls (N := 34) (rs := [.tmp 2]) (by kernel_rfl) Try.func32 rfl rfl rfl (by simp) ?_
  (repeat (first | (refine dw_seq ?_) | (refine dw_block ?_) | ((first | (refine dw_reg (N := 34) rfl (by kernel_rfl) ?_) | (apply dw_drw (id := 5) (N := 34) [(0, .blind), (1, .blind), (2, .blind), (3, .blind), (4, .blind), (6, .blind), (5, .look [25, 27]), (7, .look [25, 27]), (8, .light), (9, .light), (10, .fresh), (11, .light), (12, .fresh), (13, .step), (14, .light), (15, .light), (16, .light), (17, .step)]; kernel_rfl; rfl; kernel_rfl; (repeat (first | exact Picks.nil | (apply Picks.cons; rfl)))) | (refine dw_skip ?_) | (refine dw_exit ?_)); simp (decide := true) only [go_sem, reduceIte, reduceCtorEq, Nat.reduceEqDiff, Nat.reduceAdd, Nat.reduceMul, Nat.reduceSub, Nat.reduceLeDiff, Nat.reduceBEq])))
  refine dw_weaken (sub_zeroAt 8 0 0 1000 2 2 (rows := [[.ex 2 [], .c (.fn 41 [])]]) (r := [.ex 2 [], .c (.fn 41 [])]) (by simp (decide := true) only [go_sem, reduceIte, reduceCtorEq, Nat.reduceEqDiff, Nat.reduceAdd, Nat.reduceMul, Nat.reduceSub, Nat.reduceLeDiff, Nat.reduceBEq]) (by omega) rfl rfl) ?_
  refine dw_rng rows (fun k (x : List IRow × Nat) => kn 34 [(3, .one (.bx 8 2 0 0)), (9, dv (.sl 2 (rows.map Row.enc))), (10, dv (li rows.length)), (11, dv (li k))] (ixM 8 x.1 x.2))
    (fun k x => x.1.length = k ∧ viewL x.1 = (rows.take k).map vRow ∧ IxOk (1001 + k) x.1) ([], 0) (by simp [maxLen]; omega) ?_ ⟨rfl, rfl, by omega, by simp, by simp, by simp, by simp⟩ ?_ ?_
  · refine sub_kn rfl (by simp (decide := true) only [go_sem, reduceIte, reduceCtorEq, Nat.reduceEqDiff, Nat.reduceAdd, Nat.reduceMul, Nat.reduceSub, Nat.reduceLeDiff, Nat.reduceBEq]) (fun k r hk => ?_)
    rw [← hk]
    simp only [ixM, List.find?_nil]
    by_cases e8 : k = 8
    · subst e8; simp (decide := true) only [go_sem, reduceIte, reduceCtorEq, Nat.reduceEqDiff, Nat.reduceAdd, Nat.reduceMul, Nat.reduceSub, Nat.reduceLeDiff, Nat.reduceBEq]
    by_cases e1 : k = 1000
    · subst e1; simp (decide := true) only [go_sem, reduceIte, reduceCtorEq, Nat.reduceEqDiff, Nat.reduceAdd, Nat.reduceMul, Nat.reduceSub, Nat.reduceLeDiff, Nat.reduceBEq]
    · simp (decide := true) only [go_sem, reduceIte, reduceCtorEq, Nat.reduceEqDiff, Nat.reduceAdd, Nat.reduceMul, Nat.reduceSub, Nat.reduceLeDiff, Nat.reduceBEq, e8, e1]
  · rintro k x ⟨L, jr⟩ hx hk hm ht hd hw ⟨h1, h2, h3⟩
    simp only at h1 h2 h3
    have hfg : ∀ (m k : Nat), m < 1000 → (ixM 8 L jr k).map (Dl.Rows.tr (fgt m)) = ixM 8 L jr k := fun m k hm => ixM_tr h3 jr (keeps_fgt (notmid hm)) k
    have hix := ixM_x 8 L jr
    have hir : ixM 8 L jr 1000 = some (L.map irow ++ anyRows jr 2) := ixM_r (by omega) L jr
    (repeat' (first | (refine dw_seq ?_) | (refine dw_block ?_) | ((first | (refine dw_reg (N := 34) rfl (by kernel_rfl) ?_) | (apply dw_drw (id := 5) (N := 34) [(0, .blind), (1, .blind), (2, .blind), (3, .blind), (4, .blind), (6, .blind), (5, .look [25, 27]), (7, .look [25, 27]), (8, .light), (9, .light), (10, .fresh), (11, .light), (12, .fresh), (13, .step), (14, .light), (15, .light), (16, .light), (17, .step)]; kernel_rfl; rfl; kernel_rfl; (repeat (first | exact Picks.nil | (apply Picks.cons; rfl)))) | (refine dw_skip ?_) | (refine dw_exit ?_)); simp (decide := true) only [go_sem, reduceIte, reduceCtorEq, Nat.reduceEqDiff, Nat.reduceAdd, Nat.reduceMul, Nat.reduceSub, Nat.reduceLeDiff, Nat.reduceBEq, hd, hx, Row.enc, hfg, hix]) | (apply dw_cond; (simp (decide := true) only [go_sem, reduceIte, reduceCtorEq, Nat.reduceEqDiff, Nat.reduceAdd, Nat.reduceMul, Nat.reduceSub, Nat.reduceLeDiff, Nat.reduceBEq, hd, hx, Row.enc, hfg, hix]; rfl); all_goals (intro hcnd; first | (exact absurd hcnd (by decide)) | skip)) | ((first | refine guardC_f ?_ ?_ | refine guardC_t ?_ ?_) <;> (intro hcnd; simp (decide := true) only [go_sem, reduceIte, reduceCtorEq, Nat.reduceEqDiff, Nat.reduceAdd, Nat.reduceMul, Nat.reduceSub, Nat.reduceLeDiff, Nat.reduceBEq, hcnd, hd, hx, Row.enc, hfg, hix]))))
    have hxs := hls x hm
    refine CallC.new (caps := []) (cloneP_E (x.senses.map Part.enc) (by simp [Part.enc]) (by simp; omega)) (by simp (decide := true) only [go_sem, reduceIte, reduceCtorEq, Nat.reduceEqDiff, Nat.reduceAdd, Nat.reduceMul, Nat.reduceSub, Nat.reduceLeDiff, Nat.reduceBEq]) (DLeL.of_eq (by simp (decide := true) only [go_sem, reduceIte, reduceCtorEq, Nat.reduceEqDiff, Nat.reduceAdd, Nat.reduceMul, Nat.reduceSub, Nat.reduceLeDiff, Nat.reduceBEq])) ⟨by simp, by simp⟩ ?_
    rintro r H1 ⟨j1, rfl, hH1⟩
    have n1 : ∀ bx, callMemAftM noMid bx H1 [] (some 25) 25 = some ((x.senses.map Part.enc).map (List.map T.c) ++ anyRows j1 3) := fun bx => by
      rw [aftN_new, hH1, Option.map_some, Rows.tr_append, anyRows_tr, Rows.tr_c]
    have n2 : ∀ bx k, k ≠ 25 → callMemAftM noMid bx H1 [] (some 25) k = (bx k).map (Dl.Rows.tr (aftM noMid [] (some 25))) := fun bx k h => aftN_out bx H1 (Ne.symm h)
    have n3 := fun bx => n2 bx 8 (by omega)
    have n4 := fun bx => n2 bx 1000 (by omega)
    have tL : ∀ r : Ren, (∀ q, 1001 ≤ q → q < 1001 + k → r.g q = some q) → Dl.Rows.tr r (L.map irow) = L.map irow := fun r hr => irows_tr h3 hr
    have t1 := tL (aftM noMid [] (some 25)) (fun q h1 h2 => by simp [aftM, not_noMid]; omega)
    have t2 := tL (fgt 27) (fun q h1 h2 => by simp [fgt]; omega)
    have t3 := tL (fgts [1000, 28]) (fun q h1 h2 => by simp [fgts, show ¬ q = 1000 by omega, show ¬ q = 28 by omega])
    have t4 := tL (mvr 28 1000) (fun q h1 h2 => by simp [mvr, show ¬ q = 1000 by omega, show ¬ q = 28 by omega])
    have t0 := tL (fgt 5) (fun q h1 h2 => by simp [fgt]; omega)
    obtain ⟨K, hK⟩ : ∃ K, K = 1001 + k := ⟨_, rfl⟩
    have t5 := tL (mvr 25 K) (fun q h1 h2 => by simp [mvr, show ¬ q = 25 by omega, show ¬ q = K by omega])
    simp (decide := true) only [go_sem, reduceIte, reduceCtorEq, Nat.reduceEqDiff, Nat.reduceAdd, Nat.reduceMul, Nat.reduceSub, Nat.reduceLeDiff, Nat.reduceBEq, not_noMid]
    refine StepC.mk (Step.appendList (n := 1000) (sz := 2) (by_ := 40) (rows := L.map irow) (j := jr) (ys := [[T.c (ls x.gloss), T.ba 25 3 0 x.senses.length (x.senses.length + j1)]]) rfl rfl (by simp (decide := true) only [go_sem, reduceIte, reduceCtorEq, Nat.reduceEqDiff, Nat.reduceAdd, Nat.reduceMul, Nat.reduceSub, Nat.reduceLeDiff, Nat.reduceBEq]) (by simp (decide := true) only [go_sem, reduceIte, reduceCtorEq, Nat.reduceEqDiff, Nat.reduceAdd, Nat.reduceMul, Nat.reduceSub, Nat.reduceLeDiff, Nat.reduceBEq, not_noMid]) (by simp (decide := true) only [go_sem, reduceIte, reduceCtorEq, Nat.reduceEqDiff, Nat.reduceAdd, Nat.reduceMul, Nat.reduceSub, Nat.reduceLeDiff, Nat.reduceBEq, n4, hfg, hir, t1, t2, t0]) (irow_sz L) (srcOne (n := 27) (by simp (decide := true) only [go_sem, reduceIte, reduceCtorEq, Nat.reduceEqDiff, Nat.reduceAdd, Nat.reduceMul, Nat.reduceSub, Nat.reduceLeDiff, Nat.reduceBEq]) (by simp (decide := true) only [go_sem, reduceIte, reduceCtorEq, Nat.reduceEqDiff, Nat.reduceAdd, Nat.reduceMul, Nat.reduceSub, Nat.reduceLeDiff, Nat.reduceBEq]) rfl) (by simp; omega) ?_)
    intro j2
    simp (decide := true) only [go_sem, reduceIte, reduceCtorEq, Nat.reduceEqDiff, Nat.reduceAdd, Nat.reduceMul, Nat.reduceSub, Nat.reduceLeDiff, Nat.reduceBEq, not_noMid, n3, hix]
    (repeat' (first | (refine dw_seq ?_) | (refine dw_block ?_) | ((first | (refine dw_reg (N := 34) rfl (by kernel_rfl) ?_) | (apply dw_drw (id := 5) (N := 34) [(0, .blind), (1, .blind), (2, .blind), (3, .blind), (4, .blind), (6, .blind), (5, .look [25, 27]), (7, .look [25, 27]), (8, .light), (9, .light), (10, .fresh), (11, .light), (12, .fresh), (13, .step), (14, .light), (15, .light), (16, .light), (17, .step)]; kernel_rfl; rfl; kernel_rfl; (repeat (first | exact Picks.nil | (apply Picks.cons; rfl)))) | (refine dw_skip ?_) | (refine dw_exit ?_)); simp (decide := true) only [go_sem, reduceIte, reduceCtorEq, Nat.reduceEqDiff, Nat.reduceAdd, Nat.reduceMul, Nat.reduceSub, Nat.reduceLeDiff, Nat.reduceBEq, hw]) | (apply dw_cond; (simp (decide := true) only [go_sem, reduceIte, reduceCtorEq, Nat.reduceEqDiff, Nat.reduceAdd, Nat.reduceMul, Nat.reduceSub, Nat.reduceLeDiff, Nat.reduceBEq, hw]; rfl); all_goals (intro hcnd; first | (exact absurd hcnd (by decide)) | skip)) | ((first | refine guardC_f ?_ ?_ | refine guardC_t ?_ ?_) <;> (intro hcnd; simp (decide := true) only [go_sem, reduceIte, reduceCtorEq, Nat.reduceEqDiff, Nat.reduceAdd, Nat.reduceMul, Nat.reduceSub, Nat.reduceLeDiff, Nat.reduceBEq, hcnd, hw]))))
    have h3' : IxOk (1001 + (k + 1)) (L ++ [⟨x.gloss, K, x.senses, j1⟩]) := hK ▸ h3.snoc (by omega) (by omega) x.gloss x.senses j1 (by omega)
    have hne : ∀ m, m < 1001 → (K = m) = False := fun m hm => by simp; omega
    have hne2 : ∀ m, m < 1001 → (m = K) = False := fun m hm => by simp; omega
    have hk1 : (1000 = K) = False := hne2 1000 (by omega)
    refine ⟨(L ++ [⟨x.gloss, K, x.senses, j1⟩], j2), ⟨by simp [h1], ?_, h3'⟩, DS.Sub.trans (sub_mv 28 1000 (by omega)) (DS.Sub.trans (sub_mv 25 K (by omega)) (sub_kn rfl (by simp (decide := true) only [go_sem, reduceIte, reduceCtorEq, Nat.reduceEqDiff, Nat.reduceAdd, Nat.reduceMul, Nat.reduceSub, Nat.reduceLeDiff, Nat.reduceBEq, hne, hne2]) (fun q r hq => ?_)))⟩
    · simp only [viewL] at h2 ⊢
      rw [ht, List.map_append, List.map_append, h2]; rfl
    · simp only at hq
      by_cases e8 : q = 8
      · subst e8
        rw [ixM_x] at hq
        rw [← hq]
        simp (decide := true) only [go_sem, reduceIte, reduceCtorEq, Nat.reduceEqDiff, Nat.reduceAdd, Nat.reduceMul, Nat.reduceSub, Nat.reduceLeDiff, Nat.reduceBEq, hne, hne2, hk1, List.length_append]
      by_cases e1 : q = 1000
      · subst e1
        rw [ixM_r (by omega)] at hq
        rw [← hq]
        simp (decide := true) only [go_sem, reduceIte, reduceCtorEq, Nat.reduceEqDiff, Nat.reduceAdd, Nat.reduceMul, Nat.reduceSub, Nat.reduceLeDiff, Nat.reduceBEq, hne, hne2, hk1, t3, t4, t5, List.map_append, List.append_assoc, irow]
      by_cases eK : q = K
      · rw [eK] at hq ⊢
        have := ixM_k (X := 8) j2 h3' (fun h => by have := h.1; omega) (r := ⟨x.gloss, K, x.senses, j1⟩) (by simp)
        rw [this] at hq
        rw [← hq]
        simp (decide := true) only [go_sem, reduceIte, reduceCtorEq, Nat.reduceEqDiff, Nat.reduceAdd, Nat.reduceMul, Nat.reduceSub, Nat.reduceLeDiff, Nat.reduceBEq, hne, n1]
        simp [kmem]
      · have hq2 : ixM 8 L jr q = some r := by
          rw [← hq]
          simp only [ixM, if_neg e8, if_neg e1, List.find?_append]
          rw [List.find?_cons_of_neg (by simpa using fun e => eK e.symm)]
          simp
        have hq1 : 1001 ≤ q := by
          simp only [ixM, if_neg e8, if_neg e1, Option.map_eq_some_iff] at hq2
          obtain ⟨y, hy, _⟩ := hq2
          have h5 := List.find?_some hy
          simp only [beq_iff_eq] at h5
          have := h3.rng y (List.mem_of_find?_eq_some hy)
          omega
        have hqe : ∀ m, m < 1001 → (q = m) = False := fun m hm => by simp; omega
        have hq0 : (q = 1000) = False := hqe 1000 (by omega)
        have n5 := fun bx => n2 bx q (by omega)
        have a1 : ∀ r, (ixM 8 L jr q).map (Dl.Rows.tr r) = ixM 8 L jr q := fun r => ixM_any r e8 e1
        simp (decide := true) only [go_sem, reduceIte, reduceCtorEq, Nat.reduceEqDiff, Nat.reduceAdd, Nat.reduceMul, Nat.reduceSub, Nat.reduceLeDiff, Nat.reduceBEq, hqe, hq0, eK, n5, a1]
        exact hq2
  · rintro ⟨L, jr⟩ hd ⟨h1, h2, h3⟩
    simp only at h1 h2 h3
    have hkp : (mvr 8 0).Keeps := keeps_mvr (notmid (by omega)) (notmid (by omega))
    (repeat' (first | (refine dw_seq ?_) | (refine dw_block ?_) | ((first | (refine dw_reg (N := 34) rfl (by kernel_rfl) ?_) | (apply dw_drw (id := 5) (N := 34) [(0, .blind), (1, .blind), (2, .blind), (3, .blind), (4, .blind), (6, .blind), (5, .look [25, 27]), (7, .look [25, 27]), (8, .light), (9, .light), (10, .fresh), (11, .light), (12, .fresh), (13, .step), (14, .light), (15, .light), (16, .light), (17, .step)]; kernel_rfl; rfl; kernel_rfl; (repeat (first | exact Picks.nil | (apply Picks.cons; rfl)))) | (refine dw_skip ?_) | (refine dw_exit ?_)); simp (decide := true) only [go_sem, reduceIte, reduceCtorEq, Nat.reduceEqDiff, Nat.reduceAdd, Nat.reduceMul, Nat.reduceSub, Nat.reduceLeDiff, Nat.reduceBEq, hd]) | (apply dw_cond; (simp (decide := true) only [go_sem, reduceIte, reduceCtorEq, Nat.reduceEqDiff, Nat.reduceAdd, Nat.reduceMul, Nat.reduceSub, Nat.reduceLeDiff, Nat.reduceBEq, hd]; rfl); all_goals (intro hcnd; first | (exact absurd hcnd (by decide)) | skip)) | ((first | refine guardC_f ?_ ?_ | refine guardC_t ?_ ?_) <;> (intro hcnd; simp (decide := true) only [go_sem, reduceIte, reduceCtorEq, Nat.reduceEqDiff, Nat.reduceAdd, Nat.reduceMul, Nat.reduceSub, Nat.reduceLeDiff, Nat.reduceBEq, hcnd, hd]))))
    refine dw_weaken (sub_mv 8 0 (by omega)) ?_
    refine dw_ret ?_; simp (decide := true) only [go_sem, reduceIte, reduceCtorEq, Nat.reduceEqDiff, Nat.reduceAdd, Nat.reduceMul, Nat.reduceSub, Nat.reduceLeDiff, Nat.reduceBEq]
    refine ⟨L, jr, by rw [h2, List.take_length], h3, ?_, fun k hk => ?_⟩
    · rw [ixM_tr h3 jr hkp, ixM_x, ixM_x]
    · rw [if_neg (by omega), if_neg (by omega), ixM_tr h3 jr hkp]
      simp only [ixM, if_neg (show ¬ k = 8 by omega), if_neg (show ¬ k = 0 by omega)]
end Go.Proofs.Ytffcabenoakmgaa

/- Plain laws of sorted rows: one sense put in or taken out. -/
namespace Go.Proofs.Ytffcabenoakmgaa
open Go.Dl

structure RGood (l : List Row) : Prop where
  pw : l.Pairwise fun a b => strLt a.gloss b.gloss = true
  each : ∀ r ∈ l, PSorted r.senses
  ne : ∀ r ∈ l, r.senses ≠ []

theorem rows_bs {l : List Row} {g : ByteArray} {i : Nat} (h : l.Pairwise fun a b => strLt a.gloss b.gloss = true) (hq : BsOk (bsG (l.map (·.gloss)) g) l.length i) :
    (∀ (j : Nat) x, j < i → l[j]? = some x → strLt x.gloss g = true) ∧ (∀ (j : Nat) x, i ≤ j → l[j]? = some x → strLt x.gloss g = false) := by
  obtain ⟨h1, h2, h3⟩ := hq
  have at_ : ∀ (j : Nat) x, l[j]? = some x → bsG (l.map (·.gloss)) g j = cmpS x.gloss g := fun j x hx => by simp [bsG, hx]
  constructor
  · intro j x hj hx
    obtain ⟨y, hy⟩ : ∃ y, l[i - 1]? = some y := ⟨l[i - 1]'(by omega), List.getElem?_eq_getElem (by omega)⟩
    have hy2 : strLt y.gloss g = true := by
      have := h2 (by omega)
      rw [at_ _ y hy] at this
      exact (cmpS_lt _ _).1 this
    by_cases e : j = i - 1
    · subst e; rw [hx] at hy; injection hy with hy; subst hy; exact hy2
    · exact strLt_trans (pw_get h (by omega) hx hy) hy2
  · intro j x hj hx
    have hjl : j < l.length := (List.getElem?_eq_some_iff.1 hx).1
    obtain ⟨y, hy⟩ : ∃ y, l[i]? = some y := ⟨l[i]'(by omega), List.getElem?_eq_getElem (by omega)⟩
    have hy2 : strLt y.gloss g = false := by
      have := h3 (by omega)
      rw [at_ _ y hy] at this
      cases hc : strLt y.gloss g with
      | false => rfl
      | true => have := (cmpS_lt _ _).2 hc; omega
    by_cases e : j = i
    · subst e; rw [hx] at hy; injection hy with hy; subst hy; exact hy2
    · have := pw_get h (show i < j by omega) hy hx
      cases hc : strLt x.gloss g with
      | false => rfl
      | true => have := strLt_trans this hc; rw [hy2] at this; cases this

theorem lowR_bs {l : List Row} {g : ByteArray} {i : Nat} (h : l.Pairwise fun a b => strLt a.gloss b.gloss = true) (hq : BsOk (bsG (l.map (·.gloss)) g) l.length i) : lowR l g = i := by
  obtain ⟨g1, g2⟩ := rows_bs h hq
  exact lowR_eq l g i g1 hq.1 fun x hx => g2 i x (Nat.le_refl _) hx

theorem set_split {α : Type} {l : List α} {i : Nat} {x : α} (y : α) (h : l[i]? = some x) : l.set i y = l.take i ++ y :: l.drop (i + 1) :=
  List.set_eq_take_append_cons_drop.trans (by rw [if_pos (List.getElem?_eq_some_iff.1 h).1])

theorem vfst (l : List Row) : (l.map vRow).map (·.1) = l.map (·.gloss) := by simp

theorem ps_nil : PSorted [] := ⟨fun p hp => by simp at hp, .nil⟩

theorem take_len {α : Type} {l : List α} {i : Nat} (h : i ≤ l.length) : (l.take i).length = i := by simp; omega

theorem step_put {l : List Row} {g : ByteArray} {p : Part} {V' : List VRow} (h : RGood l) (hp : p.alt = 0) (hs : StepV g p true (l.map vRow) V') : V' = (putR l g p).map vRow := by
  obtain ⟨i, g1, ps, q, hb, hg, hq, hV⟩ := hs
  rw [vfst, List.length_map] at hb
  have hlow := lowR_bs h.pw hb
  have hil := hb.1
  unfold putR atR skipR
  rw [hlow]
  unfold putV at hg hV
  rw [vfst] at hg hV
  rw [List.getElem?_map] at hg hV
  cases hx : l[i]? with
  | none =>
    rw [hx] at hg hV
    simp only [Option.map_none, reduceCtorEq, if_false] at hg hV
    rw [List.getElem?_append_right (by simp; omega), take_len (by simpa using hil), Nat.sub_self] at hg
    simp only [List.getElem?_cons_zero, Option.some.injEq, Prod.mk.injEq] at hg
    obtain ⟨rfl, rfl⟩ := hg
    simp only [turnP, if_true, putAt_ins ps_nil hp hq, ins_ne, if_false] at hV
    rw [hV, List.set_append_right _ _ (by simp; omega), take_len (by simpa using hil), Nat.sub_self]
    simp [List.map_take, List.map_drop]
  | some r =>
    rw [hx] at hg hV
    by_cases e : r.gloss = g
    · have he : (r.gloss == g) = true := by rw [beq_bytes]; simpa using e
      simp only [Option.map_some, (cmpS_eq r.gloss g).2 e, if_true] at hg hV
      rw [List.getElem?_map, hx] at hg
      simp only [Option.map_some, Option.some.injEq, Prod.mk.injEq] at hg
      obtain ⟨rfl, rfl⟩ := hg
      simp only [turnP, if_true, putAt_ins (h.each r (List.mem_of_getElem? hx)) hp hq, ins_ne, if_false] at hV
      rw [hV, set_split (x := vRow r) _ (by rw [List.getElem?_map, hx]; rfl)]
      simp [he, List.map_take, List.map_drop]
    · have he : (r.gloss == g) = false := by rw [beq_bytes]; simpa using e
      have hc : ¬ cmpS r.gloss g = 0 := fun c => e ((cmpS_eq _ _).1 c)
      simp only [Option.map_some, Option.some.injEq, hc, if_false] at hg hV
      rw [List.getElem?_append_right (by simp; omega), take_len (by simpa using hil), Nat.sub_self] at hg
      simp only [List.getElem?_cons_zero, Option.some.injEq, Prod.mk.injEq] at hg
      obtain ⟨rfl, rfl⟩ := hg
      simp only [turnP, if_true, putAt_ins ps_nil hp hq, ins_ne, if_false] at hV
      rw [hV, List.set_append_right _ _ (by simp; omega), take_len (by simpa using hil), Nat.sub_self]
      simp [he, List.map_take, List.map_drop]

theorem lowR_spec {l : List Row} (h : l.Pairwise fun a b => strLt a.gloss b.gloss = true) (g : ByteArray) : (∀ (j : Nat) x, j < lowR l g → l[j]? = some x → strLt x.gloss g = true) ∧ (∀ (j : Nat) x, lowR l g ≤ j → l[j]? = some x → strLt x.gloss g = false) := by
  induction l with
  | nil => exact ⟨fun j x hj => by simp [lowR] at hj, fun j x _ hx => by simp at hx⟩
  | cons a l ih =>
    rw [List.pairwise_cons] at h
    obtain ⟨i1, i2⟩ := ih h.2
    cases ha : strLt a.gloss g with
    | true =>
      have e : lowR (a :: l) g = lowR l g + 1 := by simp [lowR, ha]
      rw [e]
      constructor
      · intro j x hj hx
        cases j with
        | zero => simp at hx; subst hx; exact ha
        | succ j => exact i1 j x (by omega) (by simpa using hx)
      · intro j x hj hx
        cases j with
        | zero => omega
        | succ j => exact i2 j x (by omega) (by simpa using hx)
    | false =>
      have e : lowR (a :: l) g = 0 := by simp [lowR, ha]
      rw [e]
      refine ⟨fun j x hj => by omega, fun j x _ hx => ?_⟩
      cases j with
      | zero => simp at hx; subst hx; exact ha
      | succ j =>
        have h1 := h.1 x (List.mem_of_getElem? (i := j) (by simpa using hx))
        cases hc : strLt x.gloss g with
        | false => rfl
        | true => have := strLt_trans h1 hc; rw [ha] at this; cases this

theorem atR_gloss (l : List Row) (g : ByteArray) : (atR l g).gloss = g := by
  unfold atR
  split
  · split
    · rename_i r _ he; rw [beq_bytes] at he; simpa using he
    · rfl
  · rfl

theorem atR_good {l : List Row} (h : RGood l) (g : ByteArray) : PSorted (atR l g).senses := by
  unfold atR
  split
  · split
    · rename_i r hr _; exact h.each r (List.mem_of_getElem? hr)
    · exact ps_nil
  · exact ps_nil

/-- The rows in front of a gloss, and those behind it. -/
theorem putR_mem {l : List Row} {g : ByteArray} {p : Part} {r : Row} (h : r ∈ putR l g p) : r ∈ l ∨ r = ⟨(atR l g).gloss, ins (atR l g).senses p⟩ := by
  unfold putR at h
  rcases List.mem_append.1 h with h | h
  · exact .inl (List.mem_of_mem_take h)
  · rcases List.mem_cons.1 h with h | h
    · exact .inr h
    · exact .inl (List.mem_of_mem_drop h)

theorem RGood.put {l : List Row} (h : RGood l) (g : ByteArray) {p : Part} (hp : p.alt = 0) : RGood (putR l g p) := by
  refine ⟨?_, fun r hr => ?_, fun r hr => ?_⟩
  · obtain ⟨g1, g2⟩ := lowR_spec h.pw g
    unfold putR
    have hk : ∀ x ∈ l.drop (skipR l g), strLt g x.gloss = true := fun x hx => by
      obtain ⟨j, hj⟩ := List.getElem?_of_mem hx
      rw [List.getElem?_drop] at hj
      have aux : ∀ k, lowR l g ≤ k → l[k]? = some x → x.gloss ≠ g → strLt g x.gloss = true := fun k hk hx hne => by
        have h1 := g2 k x hk hx
        cases hc : strLt g x.gloss with
        | true => rfl
        | false => exact absurd (strLt_tri h1 hc) hne
      unfold skipR at hj
      split at hj
      · rename_i r hr
        split at hj
        · rename_i he
          have e : r.gloss = g := by rw [beq_bytes] at he; simpa using he
          have h2 := pw_get h.pw (show lowR l g < lowR l g + 1 + j by omega) hr hj
          rw [← e]; exact h2
        · rename_i he
          have e : ¬ r.gloss = g := by rw [beq_bytes] at he; simpa using he
          refine aux _ (by omega) hj fun e2 => ?_
          cases j with
          | zero => rw [Nat.add_zero, hr] at hj; injection hj with hj; subst hj; exact e e2
          | succ j =>
            have h2 := pw_get h.pw (show lowR l g < lowR l g + (j + 1) by omega) hr hj
            rw [e2, g2 _ r (Nat.le_refl _) hr] at h2; cases h2
      · rename_i hn
        obtain ⟨hl, _⟩ := List.getElem?_eq_some_iff.1 hj
        rw [List.getElem?_eq_none_iff] at hn
        omega
    have ht : ∀ x ∈ l.take (lowR l g), strLt x.gloss g = true := fun x hx => by
      obtain ⟨j, hj⟩ := List.getElem?_of_mem hx
      rw [List.getElem?_take] at hj
      split at hj
      · rename_i hl; exact g1 j x hl hj
      · cases hj
    rw [List.pairwise_append]
    refine ⟨h.pw.take, List.pairwise_cons.2 ⟨fun x hx => by simp only [atR_gloss]; exact hk x hx, h.pw.drop⟩, fun a ha b hb => ?_⟩
    rcases List.mem_cons.1 hb with rfl | hb
    · simp only [atR_gloss]; exact ht a ha
    · exact strLt_trans (ht a ha) (hk b hb)
  · rcases putR_mem hr with hr | rfl
    · exact h.each r hr
    · exact (atR_good h g).ins hp
  · rcases putR_mem hr with hr | rfl
    · exact h.ne r hr
    · exact ins_ne _ _

theorem RGood.take {l : List Row} (h : RGood l) (g : ByteArray) (p : Part) : RGood (takeR l g p) := by
  refine ⟨?_, fun r hr => ?_, fun r hr => ?_⟩
  · unfold takeR
    refine List.Pairwise.filter _ ?_
    rw [List.pairwise_map]
    exact h.pw
  · unfold takeR at hr
    have := (List.mem_filter.1 hr).1
    obtain ⟨x, hx, rfl⟩ := List.mem_map.1 this
    exact (h.each x hx).keep _ _
  · unfold takeR at hr
    have := (List.mem_filter.1 hr).2
    intro e; simp [e] at this

theorem keepP_false (p : Part) (l : List Part) : keepP false p l = l := by
  unfold keepP; simp

/-- Rows without the gloss stay as they are. -/
theorem takeR_other {l : List Row} {g : ByteArray} {p : Part} (hg : ∀ r ∈ l, r.gloss ≠ g) (hn : ∀ r ∈ l, r.senses ≠ []) : takeR l g p = l := by
  unfold takeR
  have : l.map (fun r => (⟨r.gloss, keepP (r.gloss == g) p r.senses⟩ : Row)) = l := by
    conv => rhs; rw [← List.map_id l]
    refine List.map_congr_left fun r hr => ?_
    have : (r.gloss == g) = false := by rw [beq_bytes]; simpa using hg r hr
    rw [this, keepP_false]; rfl
  rw [this, List.filter_eq_self.2]
  intro r hr
  have := hn r hr
  simp [this]

theorem takeR_app (a b : List Row) (g : ByteArray) (p : Part) : takeR (a ++ b) g p = takeR a g p ++ takeR b g p := by
  unfold takeR; simp

theorem step_take {l : List Row} {g : ByteArray} {p : Part} {V' : List VRow} (h : RGood l) (hp : p.alt = 0) (hs : StepV g p false (l.map vRow) V') : V' = (takeR l g p).map vRow := by
  obtain ⟨i, g1, ps, q, hb, hg, hq, hV⟩ := hs
  rw [vfst, List.length_map] at hb
  obtain ⟨b1, b2⟩ := rows_bs h.pw hb
  have hil := hb.1
  -- the rows beside the place have other glosses
  have hne : ∀ (j : Nat) x, j ≠ i → l[j]? = some x → x.gloss ≠ g := fun j x hj hx e => by
    rcases Nat.lt_or_ge j i with hlt | hge
    · have := b1 j x hlt hx; rw [e, strLt_irrefl] at this; cases this
    · obtain ⟨hjl, _⟩ := List.getElem?_eq_some_iff.1 hx
      obtain ⟨y, hy⟩ : ∃ y, l[i]? = some y := ⟨l[i]'(by omega), List.getElem?_eq_getElem (by omega)⟩
      have h1 := pw_get h.pw (show i < j by omega) hy hx
      rw [e, b2 i y (Nat.le_refl _) hy] at h1; cases h1
  -- behind the turn of the row, the search comes to the same place
  have hplace : ∀ (V : List VRow) (i2 : Nat), V.length ≠ 0 → i < V.length → (∀ (j : Nat) x, j < i → V[j]? = some x → strLt x.1 g = true) → (∀ (j : Nat) x, i < j → V[j]? = some x → strLt g x.1 = true) → V[i]?.map (·.1) = some g →
      BsOk (bsG (V.map (·.1)) g) V.length i2 → i2 = i := fun V i2 hl0 hil2 hlow hhigh hat ⟨k1, k2, k3⟩ => by
    have at_ : ∀ (j : Nat) x, V[j]? = some x → bsG (V.map (·.1)) g j = cmpS x.1 g := fun j x hx => by simp [bsG, hx]
    rcases Nat.lt_trichotomy i2 i with hlt | e | hgt
    · obtain ⟨y, hy⟩ : ∃ y, V[i2]? = some y := ⟨V[i2]'(by omega), List.getElem?_eq_getElem (by omega)⟩
      have h1 := k3 (by omega)
      rw [at_ _ y hy] at h1
      have := (cmpS_lt y.1 g).2 (hlow i2 y hlt hy)
      omega
    · exact e
    · have h1 := k2 (by omega)
      obtain ⟨y, hy⟩ : ∃ y, V[i2 - 1]? = some y := ⟨V[i2 - 1]'(by omega), List.getElem?_eq_getElem (by omega)⟩
      rw [at_ _ y hy] at h1
      have h2 := (cmpS_lt y.1 g).1 h1
      by_cases e : i2 - 1 = i
      · rw [e] at hy; rw [hy] at hat
        simp at hat
        rw [hat, strLt_irrefl] at h2; cases h2
      · have h3 := hhigh (i2 - 1) y (by omega) hy
        have := strLt_trans h2 h3
        rw [strLt_irrefl] at this; cases this
  unfold putV at hg hV
  rw [vfst] at hg hV
  rw [List.getElem?_map] at hg hV
  have hil' : i ≤ (l.map vRow).length := by simpa using hil
  have lowV : ∀ (B : List VRow) (j : Nat) x, j < i → ((l.map vRow).take i ++ B)[j]? = some x → strLt x.1 g = true := fun B j x hj hx => by
    rw [List.getElem?_append_left (by rw [take_len hil']; exact hj), List.getElem?_take, if_pos hj, List.getElem?_map] at hx
    cases hy : l[j]? with
    | none => rw [hy] at hx; cases hx
    | some y => rw [hy] at hx; injection hx with hx; subst hx; exact b1 j y hj hy
  have atV : ∀ (x : VRow) (B : List VRow), ((l.map vRow).take i ++ x :: B)[i]? = some x := fun x B => by
    rw [List.getElem?_append_right (by rw [take_len hil']; exact Nat.le_refl _), take_len hil', Nat.sub_self]; rfl
  have tk : ∀ (s : List Part) (B : List VRow), takeV ((l.map vRow).take i ++ (g, s) :: B) g i = (l.map vRow).take i ++ B := fun s B => by
    unfold takeV
    rw [List.getElem?_map, atV]
    simp only [Option.map_some, (cmpS_eq g g).2 rfl, if_true]
    rw [List.take_left' (take_len hil'), List.drop_append, List.drop_eq_nil_of_le (by rw [take_len hil']; omega), take_len hil', Nat.add_sub_cancel_left]
    rfl
  by_cases hpres : ∃ x, l[i]? = some x ∧ x.gloss = g
  · obtain ⟨r, hx, e⟩ := hpres
    have hxm := List.mem_of_getElem? hx
    have he : (r.gloss == g) = true := by rw [beq_bytes]; simpa using e
    have hvx : (l.map vRow)[i]? = some (vRow r) := by rw [List.getElem?_map, hx]; rfl
    rw [hx] at hg hV
    simp only [Option.map_some, (cmpS_eq r.gloss g).2 e, if_true] at hg hV
    rw [hvx] at hg
    simp only [Option.some.injEq, Prod.mk.injEq] at hg
    obtain ⟨rfl, rfl⟩ := hg
    simp only [turnP, Bool.false_eq_true, if_false, takeAt_keep (h.each r hxm) hp hq] at hV
    have hl := split_at hx
    have o1 : takeR (l.take i) g p = l.take i := takeR_other (fun x hxx => by
      obtain ⟨j, hj⟩ := List.getElem?_of_mem hxx
      rw [List.getElem?_take] at hj
      split at hj
      · exact hne j x (by omega) hj
      · cases hj) (fun x hxx => h.ne x (List.mem_of_mem_take hxx))
    have o2 : takeR (l.drop (i + 1)) g p = l.drop (i + 1) := takeR_other (fun x hxx => by
      obtain ⟨j, hj⟩ := List.getElem?_of_mem hxx
      rw [List.getElem?_drop] at hj
      exact hne _ x (by omega) hj) (fun x hxx => h.ne x (List.mem_of_mem_drop hxx))
    have hT : takeR l g p = l.take i ++ ((if (keepP true p r.senses).isEmpty then [] else [⟨r.gloss, keepP true p r.senses⟩]) ++ l.drop (i + 1)) := by
      conv => lhs; rw [hl]
      rw [show r :: l.drop (i + 1) = [r] ++ l.drop (i + 1) from rfl, takeR_app, takeR_app, o1, o2]
      congr 2
      unfold takeR
      simp only [List.map_cons, List.map_nil, he]
      cases hc : (keepP true p r.senses).isEmpty <;> simp [hc]
    rw [hT]
    by_cases hk : keepP true p r.senses = []
    · rw [if_pos hk] at hV
      obtain ⟨i2, hb2, rfl⟩ := hV
      rw [set_split _ hvx] at hb2 ⊢
      have hlen : ((l.map vRow).take i ++ (r.gloss, ([] : List Part)) :: (l.map vRow).drop (i + 1)).length = (l.map vRow).length := by
        have := (List.getElem?_eq_some_iff.1 hvx).1
        simp only [List.length_append, List.length_cons, List.length_take, List.length_drop]; omega
      rw [← hlen] at hb2
      have hpos : i < (l.map vRow).length := (List.getElem?_eq_some_iff.1 hvx).1
      have e2 := hplace _ i2 (by omega) (by omega) (lowV _) (fun j x hj hx2 => by
        rw [List.getElem?_append_right (by rw [take_len hil']; omega), take_len hil'] at hx2
        obtain ⟨d, hd⟩ : ∃ d, j - i = d + 1 := ⟨j - i - 1, by omega⟩
        rw [hd, List.getElem?_cons_succ, List.getElem?_drop, List.getElem?_map] at hx2
        cases hy : l[i + 1 + d]? with
        | none => rw [hy] at hx2; cases hx2
        | some y =>
          rw [hy] at hx2; injection hx2 with hx2; subst hx2
          rw [← e]; exact pw_get h.pw (show i < i + 1 + d by omega) hx hy) (by rw [atV, ← e]; rfl) hb2
      subst e2
      rw [e, tk, hk]
      simp [List.map_take, List.map_drop]
    · rw [if_neg hk] at hV
      rw [hV, set_split _ hvx]
      have : (keepP true p r.senses).isEmpty = false := by simpa using hk
      simp [this, List.map_take, List.map_drop]
  · have hno : ∀ x, l[i]? = some x → x.gloss ≠ g := fun x hx e => hpres ⟨x, hx, e⟩
    have hall : ∀ r ∈ l, r.gloss ≠ g := fun r hr => by
      obtain ⟨j, hj⟩ := List.getElem?_of_mem hr
      by_cases e : j = i
      · subst e; exact hno r hj
      · exact hne j r e hj
    have hc : ¬ (Option.map (fun q => cmpS q g) (Option.map (fun x => x.gloss) l[i]?) = some 0) := by
      cases hx : l[i]? with
      | none => simp
      | some r => simp only [Option.map_some, Option.some.injEq]; exact fun c => hno r hx ((cmpS_eq _ _).1 c)
    rw [if_neg hc] at hg hV
    rw [atV] at hg
    simp only [Option.some.injEq, Prod.mk.injEq] at hg
    obtain ⟨rfl, rfl⟩ := hg
    have hta : takeAt [] p q = [] := by simp [takeAt]
    simp only [turnP, Bool.false_eq_true, if_false, hta, if_true] at hV
    obtain ⟨i2, hb2, rfl⟩ := hV
    rw [List.set_append_right _ _ (by rw [take_len hil']; exact Nat.le_refl _), take_len hil', Nat.sub_self, List.set_cons_zero] at hb2 ⊢
    have hlen : ((l.map vRow).take i ++ (g, ([] : List Part)) :: (l.map vRow).drop i).length = l.length + 1 := by simp; omega
    have e2 := hplace _ i2 (by omega) (by omega) (lowV _) (fun j x hj hx => by
        rw [List.getElem?_append_right (by rw [take_len hil']; omega), take_len hil'] at hx
        obtain ⟨d, hd⟩ : ∃ d, j - i = d + 1 := ⟨j - i - 1, by omega⟩
        rw [hd, List.getElem?_cons_succ, List.getElem?_drop, List.getElem?_map] at hx
        cases hy : l[i + d]? with
        | none => rw [hy] at hx; cases hx
        | some y =>
          rw [hy] at hx; injection hx with hx; subst hx
          have h1 := b2 (i + d) y (by omega) hy
          show strLt g y.gloss = true
          cases hc : strLt g y.gloss with
          | true => rfl
          | false => exact absurd (strLt_tri h1 hc) (hall y (List.mem_of_getElem? hy))) (by rw [atV]; rfl) hb2
    subst e2
    rw [takeR_other hall h.ne, tk, List.take_append_drop]
end Go.Proofs.Ytffcabenoakmgaa

/- Contracts of the program's Build and Update. -/
namespace Go.Proofs.Ytffcabenoakmgaa
open Go.Dl
attribute [local irreducible] DW DCalls ECalls wk

theorem steps_put {l : List Row} (h : RGood l) (id : Int) (ss : List Sense) : ∀ (k : Nat) (V' : List VRow), StepsV id true ss k (l.map vRow) V' → V' = (putsN l id ss k).map vRow
  | 0, V', hs => hs
  | k + 1, V', hs => by
    obtain ⟨V1, h1, h2⟩ := hs
    have e := steps_put h id ss k V1 h1
    subst e
    have hg : ∀ k, RGood (putsN l id ss k) := fun k => by
      induction k with
      | zero => exact h
      | succ k ih => simp only [putsN]; split; exact ih.put _ rfl; exact ih
    simp only [putsN]
    split at h2
    · rename_i s hs; simp only [hs]; exact step_put (hg k) rfl h2
    · rename_i hs; simp only [hs]; exact h2

theorem puts_good {l : List Row} (h : RGood l) (id : Int) (ss : List Sense) : ∀ k, RGood (putsN l id ss k)
  | 0 => h
  | k + 1 => by simp only [putsN]; split; exact (puts_good h id ss k).put _ rfl; exact puts_good h id ss k

theorem takes_good {l : List Row} (h : RGood l) (id : Int) (ss : List Sense) : ∀ k, RGood (takesN l id ss k)
  | 0 => h
  | k + 1 => by simp only [takesN]; split; exact (takes_good h id ss k).take _ _; exact takes_good h id ss k

theorem steps_take {l : List Row} (h : RGood l) (id : Int) (ss : List Sense) : ∀ (k : Nat) (V' : List VRow), StepsV id false ss k (l.map vRow) V' → V' = (takesN l id ss k).map vRow
  | 0, V', hs => hs
  | k + 1, V', hs => by
    obtain ⟨V1, h1, h2⟩ := hs
    have e := steps_take h id ss k V1 h1
    subst e
    simp only [takesN]
    split at h2
    · rename_i s hs; simp only [hs]; exact step_take (takes_good h id ss k) rfl h2
    · rename_i hs; simp only [hs]; exact h2

theorem RGood.nil : RGood [] := ⟨.nil, fun r h => by simp at h, fun r h => by simp at h⟩

theorem build_good (l : List Entry) : ∀ k, RGood (buildN l k)
  | 0 => RGood.nil
  | k + 1 => by simp only [buildN]; split; exact puts_good (build_good l k) _ _ _; exact build_good l k

theorem puts_okc {n : Nat} {rows : List Row} (h : RowsOk n rows) (id : Int) (ss : List Sense) (k : Nat) : RowsOk (n + k) (putsN rows id ss k) := putsN_ok h id ss k

theorem build_okc {l : List Entry} {c : Nat} (hs : ∀ e ∈ l, e.senses.length ≤ c) : ∀ k, RowsOk (c * k) (buildN l k)
  | 0 => ⟨by simp [buildN], fun r hr => by simp [buildN] at hr⟩
  | k + 1 => by
    simp only [buildN]
    split
    · rename_i e he
      have := hs e (List.mem_of_getElem? he)
      exact (putsN_ok (build_okc hs k) _ _ _).mono (by rw [Nat.mul_add]; omega)
    · exact (build_okc hs k).mono (by rw [Nat.mul_add]; omega)

theorem view_ok {n : Nat} {L : List IRow} {rows : List Row} (h : viewL L = rows.map vRow) (hr : RowsOk n rows) : L.length ≤ n ∧ ∀ r ∈ L, r.ps.length ≤ n := by
  have hl : L.length = rows.length := by have := congrArg List.length h; simpa [viewL] using this
  refine ⟨by rw [hl]; exact hr.1, fun r hm => ?_⟩
  have : (r.gloss, r.ps) ∈ rows.map vRow := by rw [← h]; exact List.mem_map.2 ⟨r, hm, rfl⟩
  obtain ⟨x, hx, e⟩ := List.mem_map.1 this
  injection e with e1 e2
  rw [← e2]; exact hr.2 x hx

theorem IxOk.mono {B B' : Nat} {L : List IRow} (h : IxOk B L) (hB : B ≤ B') (hB' : B' ≤ 90000) : IxOk B' L :=
  ⟨hB', h.nd, fun r hr => ⟨(h.rng r hr).1, Nat.lt_of_lt_of_le (h.rng r hr).2 hB⟩, h.len, h.lens⟩

/-! ### The index handed to a call -/

theorem ixM_mid {X Y B : Nat} {L : List IRow} (h : IxOk B L) {jr k : Nat} (hX : k ≠ X) (hY : k ≠ Y) : ixM X L jr k = ixM Y L jr k := by simp only [ixM, if_neg hX, if_neg hY]

theorem ixM_in {X B : Nat} {L : List IRow} (h : IxOk B L) {jr k : Nat} {r : Dl.Rows} (hX : k ≠ X) (hk : ixM X L jr k = some r) : mid k := by
  have hNB := NB_big
  have hB := h.hB
  unfold ixM at hk
  rw [if_neg hX] at hk
  split at hk
  · rename_i e; subst e; exact ⟨Nat.le_refl _, by omega⟩
  · simp only [Option.map_eq_some_iff] at hk
    obtain ⟨q, hq, rfl⟩ := hk
    have hkq := List.find?_some hq
    simp only [beq_iff_eq] at hkq
    have h1 := h.rng q (List.mem_of_find?_eq_some hq)
    exact ⟨by omega, by omega⟩

theorem ix_call {m B : Nat} {L : List IRow} {jr : Nat} {bx : Mem} (hm : m < 1000) (h : IxOk B L) (h1 : bx m = ixM m L jr m) (h2 : ∀ k, mid k → bx k = ixM m L jr k) : ∀ k r, ixM (m + NB) L jr k = some r → callMem bx [m] k = some r := fun k r hk => by
  have hNB := NB_big
  have hkp : (shf [m]).Keeps := keeps_shf (by simpa using notmid hm)
  unfold callMem
  by_cases e : k = m + NB
  · subst e
    rw [ixM_x] at hk
    rw [if_pos ⟨by omega, by simp⟩, Nat.add_sub_cancel, h1, ixM_tr h jr hkp, ixM_x]; exact hk
  · have hkm := ixM_in h e hk
    have : ¬ (NB ≤ k ∧ k - NB ∈ [m]) := fun e => by have := hkm.2; omega
    rw [if_neg this, if_pos hkm, h2 k hkm, ixM_tr h jr hkp, ixM_mid h (Y := m + NB) (by have := hkm.1; omega) e]; exact hk

theorem ix_aft {m d B : Nat} {L : List IRow} {jr : Nat} {H1 : Mem} (hm : m < 1000) (hd : d < 1000) (hdm : d ≠ m) (h : IxOk B L) (h1 : H1 (m + NB) = ixM (m + NB) L jr (m + NB)) (h2 : ∀ k, mid k → H1 k = ixM (m + NB) L jr k) (bx : Mem) :
    callMemAft bx H1 [m] (some d) m = ixM m L jr m ∧ ∀ k, mid k → callMemAft bx H1 [m] (some d) k = ixM m L jr k := by
  have hNB := NB_big
  constructor
  · rw [aft_x (by simp [hdm]) (fun r hr => ixM_mids h jr _ r hr) h1, ixM_x, ixM_x]
  · intro k hk
    rw [aft_mid hk (by have := hk.1; omega) (by simp; have := hk.1; omega) (h2 k hk) (fun r hr => ixM_mids h jr _ r hr), ixM_mid (X := m + NB) (Y := m) h (by have := hk.2; omega) (by have := hk.1; omega)]

/-! ### The index given up -/

def frow (r : IRow) : List C := [ls r.gloss, .sl 3 (r.ps.map Part.enc)]

theorem sub_frzIx {s : DS} {t cap B jr : Nat} {L : List IRow} (h : IxOk B L) (ht : s.sl t = .one (.ba 1000 2 0 L.length cap)) (h1 : s.bx 1000 = some (L.map irow ++ anyRows jr 2)) (h2 : ∀ r ∈ L, s.bx r.k = some (kmem r)) :
    s.Sub (kn s.n [(t, dv (.sl 2 (L.map frow)))] noMem) := by
  have key : ∀ n, n ≤ L.length → ∃ s' : DS, s.Sub s' ∧ s'.n = s.n ∧ s'.sl t = .one (.ba 1000 2 0 L.length cap) ∧ s'.bx 1000 = some (((L.take n).map frow).map (List.map T.c) ++ ((L.drop n).map irow ++ anyRows jr 2)) ∧ ∀ r ∈ L.drop n, s'.bx r.k = some (kmem r) := by
    intro n
    induction n with
    | zero => exact fun _ => ⟨s, DS.Sub.refl s, rfl, ht, by simpa using h1, by simpa using h2⟩
    | succ n ih =>
      intro hn
      obtain ⟨s', g1, g2, g3, g4, g5⟩ := ih (by omega)
      have hx : L[n]? = some L[n] := List.getElem?_eq_getElem (by omega)
      have hxm : L[n] ∈ L := List.getElem_mem _
      have hdrop : L.drop n = L[n] :: L.drop (n + 1) := List.drop_eq_getElem_cons (by omega)
      generalize L[n] = r at hx hxm hdrop
      have hrng := h.rng r hxm
      have hdist : ∀ q ∈ L.drop (n + 1), q.k ≠ r.k := fun q hq e => by
        have hnd := h.nd
        rw [← List.take_append_drop n L, hdrop, List.map_append, List.map_cons, List.nodup_append] at hnd
        exact (List.nodup_cons.1 hnd.2.1).1 (List.mem_map.2 ⟨q, hq, e⟩)
      have hmem : s'.bx r.k = some ((r.ps.map Part.enc).map (List.map T.c) ++ anyRows r.j 3) := by
        rw [g5 r (by rw [hdrop]; simp)]; simp [kmem]
      have hcr : ∀ cs : List (List C), (cs.map (List.map T.c)).map (T.frzAll r.k 3 (r.ps.map Part.enc)) = cs.map (List.map T.c) := fun cs => by
        rw [List.map_map]
        refine List.map_congr_left fun x _ => ?_
        simp only [Function.comp, T.frzAll_eq, List.map_map]
        refine List.map_congr_left fun y _ => ?_
        simp [T.frz]
      have hany : ∀ (j z : Nat), (anyRows j z).map (T.frzAll r.k 3 (r.ps.map Part.enc)) = anyRows j z := fun j z => by
        refine (List.map_congr_left fun x hx => ?_).trans (List.map_id _)
        rw [List.eq_of_mem_replicate hx, T.frzAll_eq, List.map_replicate]; simp [T.frz]
      refine ⟨s'.frz r.k 3 (r.ps.map Part.enc), DS.Sub.trans g1 (fun X a w ⟨E, hE⟩ => hE.frz (by omega) hmem (fun x hx => by obtain ⟨p, _, rfl⟩ := List.mem_map.1 hx; rfl)), g2, ?_, ?_, fun q hq => ?_⟩
      · simp only [DS.frz, g3, D.frz, T.frz, if_neg (show ¬ (1000 : Nat) = r.k by omega)]
      · simp only [DS.frz, if_neg (show ¬ (1000 : Nat) = r.k by omega), g4, Option.map_some, List.map_append, hcr, hany, hdrop, List.map_cons]
        congr 1
        rw [List.take_add_one, hx]
        simp only [Option.toList_some, List.map_append, List.map_cons, List.map_nil, List.append_assoc, List.cons_append, List.nil_append]
        congr 1
        congr 1
        · simp [irow, T.frzAll, T.frz, frow]
          exact List.take_of_length_le (by simp)
        · congr 1
          rw [List.map_map]
          refine List.map_congr_left fun x hx => ?_
          simp only [Function.comp, irow, T.frzAll, T.frz, if_neg (hdist x hx)]
      · simp only [DS.frz, if_neg (hdist q hq), g5 q (by rw [hdrop]; simp [hq]), Option.map_some]
        congr 1
        unfold kmem
        rw [List.map_append, hany]
        congr 1
        have e : q.ps.map pRow = (q.ps.map Part.enc).map (List.map T.c) := by rw [List.map_map]; rfl
        rw [e, hcr]
  obtain ⟨s', g1, g2, g3, g4, _⟩ := key L.length (Nat.le_refl _)
  rw [List.take_length, List.drop_length, List.map_nil, List.nil_append] at g4
  refine DS.Sub.trans g1 (DS.Sub.trans (b := s'.frz 1000 2 (L.map frow)) (fun X a w ⟨E, hE⟩ => hE.frz (by omega) g4 (fun x hx => by obtain ⟨p, _, rfl⟩ := List.mem_map.1 hx; rfl)) (sub_kn g2 ⟨.inl ?_, trivial⟩ (by simp [noMem])))
  simp only [DS.frz, g3, D.frz, T.frz, if_true, List.drop_zero, List.length_map, Nat.zero_add, Nat.le_refl, and_self]
  rw [List.take_of_length_le (by simp)]

theorem frow_view {L : List IRow} {rows : List Row} (h : viewL L = rows.map vRow) : L.map frow = rows.map Row.enc := by
  have : L.map frow = (viewL L).map (fun v => [ls v.1, .sl 3 (v.2.map Part.enc)]) := by simp [viewL, frow]
  rw [this, h]; simp [Row.enc]

theorem ix_new {m B : Nat} {L : List IRow} {jr : Nat} {H1 : Mem} (hm : m < 1000) (h : IxOk B L) (h1 : H1 0 = ixM 0 L jr 0) (h2 : ∀ k, mid k → H1 k = ixM 0 L jr k) (bx : Mem) :
    callMemAft bx H1 [] (some m) m = ixM m L jr m ∧ ∀ k, mid k → callMemAft bx H1 [] (some m) k = ixM m L jr k := by
  have hkp : (usf [] (some m)).Keeps := keeps_usf
  constructor
  · simp only [callMemAft, if_true, h1]
    rw [ixM_tr h jr hkp, ixM_x, ixM_x]
  · intro k hk
    have h3 : ¬ (some m = some k) := by simp; have := hk.1; omega
    simp only [callMemAft, if_neg h3, List.not_mem_nil, if_false, if_pos hk, h2 k hk]
    rw [ixM_tr h jr hkp]
    exact ixM_mid (X := 0) (Y := m) h (by have := hk.1; omega) (by have := hk.1; omega)

/-- Another index in the memories of the state. -/
theorem ix_out {m d B : Nat} {L : List IRow} {jr : Nat} (hm : m < 1000) (h : IxOk B L) {f : Mem} (h1 : f m = ixM m L jr m) (h2 : ∀ k, mid k → f k = ixM m L jr k) {g : Mem} (h3 : ∀ k, (k = m ∨ mid k) → g k = f k) : ∀ k r, ixM m L jr k = some r → g k = some r := fun k r hk => by
  by_cases e : k = m
  · subst e; rw [h3 k (.inl rfl), h1]; exact hk
  · have := ixM_in h e hk
    rw [h3 k (.inr this), h2 k this]; exact hk

--F15
set_option maxRecDepth 10000 in
set_option maxHeartbeats 4000000 in
theorem buildP_D (l : List Entry) (hl : l.length ≤ 110) (hs : ∀ e ∈ l, e.senses.length ≤ 20) : DCalls Try.prog 15 [dv (.sl 8 (l.map Entry.enc))] (dv (.sl 2 ((buildR l).map Row.enc))) := by
  have hNB := NB_big
  refine dcalls (N := 22) (rs := [.tmp 2]) (by kernel_rfl) Try.func15 rfl rfl rfl (by simp) ?_
  (repeat' (first | (refine dw_seq ?_) | (refine dw_block ?_) | ((first | (refine dw_reg (N := 22) rfl (by kernel_rfl) ?_) | (refine dw_skip ?_) | (refine dw_exit ?_)); simp (decide := true) only [go_sem, reduceIte, reduceCtorEq, Nat.reduceEqDiff, Nat.reduceAdd, Nat.reduceMul, Nat.reduceSub, Nat.reduceLeDiff, Nat.reduceBEq]) | (apply dw_cond; (simp (decide := true) only [go_sem, reduceIte, reduceCtorEq, Nat.reduceEqDiff, Nat.reduceAdd, Nat.reduceMul, Nat.reduceSub, Nat.reduceLeDiff, Nat.reduceBEq]; rfl); all_goals (intro hcnd; first | (exact absurd hcnd (by decide)) | skip)) | ((first | refine guardC_f ?_ ?_ | refine guardC_t ?_ ?_) <;> (intro hcnd; simp (decide := true) only [go_sem, reduceIte, reduceCtorEq, Nat.reduceEqDiff, Nat.reduceAdd, Nat.reduceMul, Nat.reduceSub, Nat.reduceLeDiff, Nat.reduceBEq, hcnd]))))
  refine CallC.eff (caps := []) [] (open_E [] (by simp) (by simp)) (by simp (decide := true) only [go_sem, reduceIte, reduceCtorEq, Nat.reduceEqDiff, Nat.reduceAdd, Nat.reduceMul, Nat.reduceSub, Nat.reduceLeDiff, Nat.reduceBEq]) (.cons (by simp (decide := true) only [go_sem, reduceIte, reduceCtorEq, Nat.reduceEqDiff, Nat.reduceAdd, Nat.reduceMul, Nat.reduceSub, Nat.reduceLeDiff, Nat.reduceBEq]) .nil) (fun k r hk => by cases hk) ⟨by simp, by simp⟩ ?_
  rintro r H1 ⟨rfl, L, jr, hv, hok, h1, h2⟩
  obtain ⟨q1, q2⟩ : (∀ bx, callMemAft bx H1 [] (some 6) 6 = ixM 6 L jr 6) ∧ ∀ bx k, mid k → callMemAft bx H1 [] (some 6) k = ixM 6 L jr k := ⟨fun bx => (ix_new (by omega) hok h1 h2 bx).1, fun bx => (ix_new (by omega) hok h1 h2 bx).2⟩
  simp (decide := true) only [go_sem, reduceIte, reduceCtorEq, Nat.reduceEqDiff, Nat.reduceAdd, Nat.reduceMul, Nat.reduceSub, Nat.reduceLeDiff, Nat.reduceBEq]
  (repeat' (first | (refine dw_seq ?_) | (refine dw_block ?_) | ((first | (refine dw_reg (N := 22) rfl (by kernel_rfl) ?_) | (refine dw_skip ?_) | (refine dw_exit ?_)); simp (decide := true) only [go_sem, reduceIte, reduceCtorEq, Nat.reduceEqDiff, Nat.reduceAdd, Nat.reduceMul, Nat.reduceSub, Nat.reduceLeDiff, Nat.reduceBEq]) | (apply dw_cond; (simp (decide := true) only [go_sem, reduceIte, reduceCtorEq, Nat.reduceEqDiff, Nat.reduceAdd, Nat.reduceMul, Nat.reduceSub, Nat.reduceLeDiff, Nat.reduceBEq]; rfl); all_goals (intro hcnd; first | (exact absurd hcnd (by decide)) | skip)) | ((first | refine guardC_f ?_ ?_ | refine guardC_t ?_ ?_) <;> (intro hcnd; simp (decide := true) only [go_sem, reduceIte, reduceCtorEq, Nat.reduceEqDiff, Nat.reduceAdd, Nat.reduceMul, Nat.reduceSub, Nat.reduceLeDiff, Nat.reduceBEq, hcnd]))))
  refine dw_rng l (fun k (x : List IRow × Nat) => kn 22 [(3, .one (.bx 6 2 0 0)), (7, dv (.sl 8 (l.map Entry.enc))), (8, dv (li l.length)), (9, dv (li k))] (ixM 6 x.1 x.2))
    (fun k x => viewL x.1 = (buildN l k).map vRow ∧ IxOk (1001 + 20 * k) x.1) (L, jr) (by simp [maxLen]; omega) ?_ ⟨hv, hok⟩ ?_ ?_
  · refine sub_kn rfl (by simp (decide := true) only [go_sem, reduceIte, reduceCtorEq, Nat.reduceEqDiff, Nat.reduceAdd, Nat.reduceMul, Nat.reduceSub, Nat.reduceLeDiff, Nat.reduceBEq]) (fun k r hk => ?_)
    have hk' : ixM 6 L jr k = some r := hk
    by_cases e : k = 6
    · subst e
      simp (decide := true) only [go_sem, reduceIte, reduceCtorEq, Nat.reduceEqDiff, Nat.reduceAdd, Nat.reduceMul, Nat.reduceSub, Nat.reduceLeDiff, Nat.reduceBEq, q1]
      exact hk'
    · have hkm := ixM_in hok e hk'
      have q3 := fun bx => q2 bx k hkm
      simp (decide := true) only [go_sem, reduceIte, reduceCtorEq, Nat.reduceEqDiff, Nat.reduceAdd, Nat.reduceMul, Nat.reduceSub, Nat.reduceLeDiff, Nat.reduceBEq, q3]
      exact hk'
  · rintro k x ⟨L, jr⟩ hx hk hm ht hd hw ⟨hv, hok⟩
    simp only at hv hok
    have hxs := hs x hm
    have hbk := view_ok hv (build_okc (c := 20) hs k)
    have hstep : buildN l (k + 1) = putsN (buildN l k) x.id x.senses x.senses.length := by simp only [buildN, hx]
    have hfg : ∀ (m q : Nat), m < 1000 → (ixM 6 L jr q).map (Dl.Rows.tr (fgt m)) = ixM 6 L jr q := fun m q hm => ixM_tr hok jr (keeps_fgt (notmid hm)) q
    (repeat' (first | (refine dw_seq ?_) | (refine dw_block ?_) | ((first | (refine dw_reg (N := 22) rfl (by kernel_rfl) ?_) | (refine dw_skip ?_) | (refine dw_exit ?_)); simp (decide := true) only [go_sem, reduceIte, reduceCtorEq, Nat.reduceEqDiff, Nat.reduceAdd, Nat.reduceMul, Nat.reduceSub, Nat.reduceLeDiff, Nat.reduceBEq, hd, hx, Entry.enc, hfg]) | (apply dw_cond; (simp (decide := true) only [go_sem, reduceIte, reduceCtorEq, Nat.reduceEqDiff, Nat.reduceAdd, Nat.reduceMul, Nat.reduceSub, Nat.reduceLeDiff, Nat.reduceBEq, hd, hx, Entry.enc, hfg]; rfl); all_goals (intro hcnd; first | (exact absurd hcnd (by decide)) | skip)) | ((first | refine guardC_f ?_ ?_ | refine guardC_t ?_ ?_) <;> (intro hcnd; simp (decide := true) only [go_sem, reduceIte, reduceCtorEq, Nat.reduceEqDiff, Nat.reduceAdd, Nat.reduceMul, Nat.reduceSub, Nat.reduceLeDiff, Nat.reduceBEq, hcnd, hd, hx, Entry.enc, hfg]))))
    have hch := change_E (6 + NB) (1001 + 20 * k) (by omega) x true L jr hok (by omega) (by omega) (by omega) (by omega) (fun r hr => by have := hbk.2 r hr; omega)
    refine CallC.eff (caps := []) [6] hch (by simp (decide := true) only [go_sem, reduceIte, reduceCtorEq, Nat.reduceEqDiff, Nat.reduceAdd, Nat.reduceMul, Nat.reduceSub, Nat.reduceLeDiff, Nat.reduceBEq]) (DLeL.of_eq (by simp (decide := true) only [go_sem, reduceIte, reduceCtorEq, Nat.reduceEqDiff, Nat.reduceAdd, Nat.reduceMul, Nat.reduceSub, Nat.reduceLeDiff, Nat.reduceBEq, Entry.enc])) (ix_call (by omega) hok (by simp (decide := true) only [go_sem, reduceIte, reduceCtorEq, Nat.reduceEqDiff, Nat.reduceAdd, Nat.reduceMul, Nat.reduceSub, Nat.reduceLeDiff, Nat.reduceBEq, hfg]) (fun q hq => ?_)) ⟨by simpa using notmid (by omega), by simp⟩ ?_
    · have hqe : ∀ m, m < 1000 → (q = m) = False := fun m hm => by simp; have := hq.1; omega
      simp (decide := true) only [go_sem, reduceIte, reduceCtorEq, Nat.reduceEqDiff, Nat.reduceAdd, Nat.reduceMul, Nat.reduceSub, Nat.reduceLeDiff, Nat.reduceBEq, hqe, hfg]
    rintro r H2 ⟨rfl, L', jr', hst, hok', g1, g2⟩
    have p := ix_aft (d := 15) (show 6 < 1000 by omega) (by omega) (by omega) hok' g1 g2
    simp (decide := true) only [go_sem, reduceIte, reduceCtorEq, Nat.reduceEqDiff, Nat.reduceAdd, Nat.reduceMul, Nat.reduceSub, Nat.reduceLeDiff, Nat.reduceBEq]
    (repeat' (first | (refine dw_seq ?_) | (refine dw_block ?_) | ((first | (refine dw_reg (N := 22) rfl (by kernel_rfl) ?_) | (refine dw_skip ?_) | (refine dw_exit ?_)); simp (decide := true) only [go_sem, reduceIte, reduceCtorEq, Nat.reduceEqDiff, Nat.reduceAdd, Nat.reduceMul, Nat.reduceSub, Nat.reduceLeDiff, Nat.reduceBEq, hw]) | (apply dw_cond; (simp (decide := true) only [go_sem, reduceIte, reduceCtorEq, Nat.reduceEqDiff, Nat.reduceAdd, Nat.reduceMul, Nat.reduceSub, Nat.reduceLeDiff, Nat.reduceBEq, hw]; rfl); all_goals (intro hcnd; first | (exact absurd hcnd (by decide)) | skip)) | ((first | refine guardC_f ?_ ?_ | refine guardC_t ?_ ?_) <;> (intro hcnd; simp (decide := true) only [go_sem, reduceIte, reduceCtorEq, Nat.reduceEqDiff, Nat.reduceAdd, Nat.reduceMul, Nat.reduceSub, Nat.reduceLeDiff, Nat.reduceBEq, hcnd, hw]))))
    refine ⟨(L', jr'), ⟨?_, hok'.mono (by omega) (by omega)⟩, sub_kn rfl (by simp (decide := true) only [go_sem, reduceIte, reduceCtorEq, Nat.reduceEqDiff, Nat.reduceAdd, Nat.reduceMul, Nat.reduceSub, Nat.reduceLeDiff, Nat.reduceBEq]) (fun q r hq => ?_)⟩
    · simp only
      rw [hv] at hst
      rw [hstep]
      exact steps_put (build_good l k) x.id x.senses _ _ hst
    · have hq' : ixM 6 L' jr' q = some r := hq
      by_cases e : q = 6
      · subst e
        have p1 := fun bx => (p bx).1
        simp (decide := true) only [go_sem, reduceIte, reduceCtorEq, Nat.reduceEqDiff, Nat.reduceAdd, Nat.reduceMul, Nat.reduceSub, Nat.reduceLeDiff, Nat.reduceBEq, p1]
        exact hq'
      · have hqm := ixM_in hok' e hq'
        have p2 := fun bx => (p bx).2 q hqm
        simp (decide := true) only [go_sem, reduceIte, reduceCtorEq, Nat.reduceEqDiff, Nat.reduceAdd, Nat.reduceMul, Nat.reduceSub, Nat.reduceLeDiff, Nat.reduceBEq, p2]
        exact hq'
  · rintro ⟨L, jr⟩ hd ⟨hv, hok⟩
    simp only at hv hok
    (repeat' (first | (refine dw_seq ?_) | (refine dw_block ?_) | ((first | (refine dw_reg (N := 22) rfl (by kernel_rfl) ?_) | (refine dw_skip ?_) | (refine dw_exit ?_)); simp (decide := true) only [go_sem, reduceIte, reduceCtorEq, Nat.reduceEqDiff, Nat.reduceAdd, Nat.reduceMul, Nat.reduceSub, Nat.reduceLeDiff, Nat.reduceBEq, hd, ixM_x]) | (apply dw_cond; (simp (decide := true) only [go_sem, reduceIte, reduceCtorEq, Nat.reduceEqDiff, Nat.reduceAdd, Nat.reduceMul, Nat.reduceSub, Nat.reduceLeDiff, Nat.reduceBEq, hd, ixM_x]; rfl); all_goals (intro hcnd; first | (exact absurd hcnd (by decide)) | skip)) | ((first | refine guardC_f ?_ ?_ | refine guardC_t ?_ ?_) <;> (intro hcnd; simp (decide := true) only [go_sem, reduceIte, reduceCtorEq, Nat.reduceEqDiff, Nat.reduceAdd, Nat.reduceMul, Nat.reduceSub, Nat.reduceLeDiff, Nat.reduceBEq, hcnd, hd, ixM_x]))))
    refine dw_weaken (sub_frzIx (t := 2) (cap := L.length + jr) (L := L) (jr := jr) hok (by simp (decide := true) only [go_sem, reduceIte, reduceCtorEq, Nat.reduceEqDiff, Nat.reduceAdd, Nat.reduceMul, Nat.reduceSub, Nat.reduceLeDiff, Nat.reduceBEq]) (by simp (decide := true) only [go_sem, reduceIte, reduceCtorEq, Nat.reduceEqDiff, Nat.reduceAdd, Nat.reduceMul, Nat.reduceSub, Nat.reduceLeDiff, Nat.reduceBEq]; exact ixM_r (by omega) L jr) (fun r hr => ?_)) ?_
    · simp (decide := true) only [go_sem, reduceIte, reduceCtorEq, Nat.reduceEqDiff, Nat.reduceAdd, Nat.reduceMul, Nat.reduceSub, Nat.reduceLeDiff, Nat.reduceBEq]
      exact ixM_k jr hok (notmid (by omega)) hr
    · refine dw_ret ?_; simp (decide := true) only [go_sem, reduceIte, reduceCtorEq, Nat.reduceEqDiff, Nat.reduceAdd, Nat.reduceMul, Nat.reduceSub, Nat.reduceLeDiff, Nat.reduceBEq]
      rw [frow_view hv]
      rfl
end Go.Proofs.Ytffcabenoakmgaa

/- Plain laws of sorted rows: rows are what their parts are. -/
namespace Go.Proofs.Ytffcabenoakmgaa
open Go.Dl

/-- Two lists in strict order with the same members are one. -/
theorem pw_ext {α : Type} {R : α → α → Prop} (irr : ∀ a, ¬ R a a) (asy : ∀ a b, R a b → ¬ R b a) : ∀ {a b : List α}, a.Pairwise R → b.Pairwise R → (∀ x, x ∈ a ↔ x ∈ b) → a = b
  | [], [], _, _, _ => rfl
  | [], y :: b, _, _, h => by have := (h y).2 (by simp); simp at this
  | x :: a, [], _, _, h => by have := (h x).1 (by simp); simp at this
  | x :: a, y :: b, ha, hb, h => by
    rw [List.pairwise_cons] at ha hb
    have e : x = y := by
      rcases List.mem_cons.1 ((h x).1 (by simp)) with e | hx
      · exact e
      · rcases List.mem_cons.1 ((h y).2 (by simp)) with e | hy
        · exact e.symm
        · exact absurd (hb.1 x hx) (asy _ _ (ha.1 y hy))
    subst e
    congr 1
    refine pw_ext irr asy ha.2 hb.2 fun z => ?_
    constructor
    · intro hz
      rcases List.mem_cons.1 ((h z).1 (by simp [hz])) with e | hz'
      · subst e; exact absurd (ha.1 z hz) (irr z)
      · exact hz'
    · intro hz
      rcases List.mem_cons.1 ((h z).2 (by simp [hz])) with e | hz'
      · subst e; exact absurd (hb.1 z hz) (irr z)
      · exact hz'

/-- A part stands under a gloss. -/
def Has (l : List Row) (g : ByteArray) (p : Part) : Prop := ∃ r ∈ l, r.gloss = g ∧ p ∈ r.senses

theorem row_one {l : List Row} (h : RGood l) {r q : Row} (hr : r ∈ l) (hq : q ∈ l) (e : r.gloss = q.gloss) : r = q := by
  obtain ⟨i, hi⟩ := List.getElem?_of_mem hr
  obtain ⟨j, hj⟩ := List.getElem?_of_mem hq
  rcases Nat.lt_trichotomy i j with h1 | h1 | h1
  · have := pw_get h.pw h1 hi hj; rw [e, strLt_irrefl] at this; cases this
  · subst h1; rw [hi] at hj; injection hj
  · have := pw_get h.pw h1 hj hi; rw [e, strLt_irrefl] at this; cases this

theorem has_row {l : List Row} (h : RGood l) {r : Row} (hr : r ∈ l) (p : Part) : Has l r.gloss p ↔ p ∈ r.senses :=
  ⟨fun ⟨q, hq, e, hp⟩ => by rw [row_one h hr hq e.symm]; exact hp, fun hp => ⟨r, hr, rfl, hp⟩⟩

theorem parts_ext {a b : List Part} (ha : PSorted a) (hb : PSorted b) (h : ∀ p, p ∈ a ↔ p ∈ b) : a = b :=
  pw_ext (R := fun a b => a.lt b = true) (fun a h => by rw [Part.lt_irrefl] at h; cases h) (fun a b h k => by have := Part.lt_trans h k; rw [Part.lt_irrefl] at this; cases this) ha.pw hb.pw h

theorem rows_ext {a b : List Row} (ha : RGood a) (hb : RGood b) (h : ∀ g p, Has a g p ↔ Has b g p) : a = b := by
  have one : ∀ {a b : List Row}, RGood a → RGood b → (∀ g p, Has a g p ↔ Has b g p) → ∀ r, r ∈ a → r ∈ b := fun {a b} ha hb h r hr => by
    obtain ⟨p, hp⟩ := List.exists_mem_of_ne_nil _ (ha.ne r hr)
    obtain ⟨q, hq, e, hp2⟩ := (h r.gloss p).1 ⟨r, hr, rfl, hp⟩
    have : r.senses = q.senses := parts_ext (ha.each r hr) (hb.each q hq) fun x => by
      rw [← has_row ha hr x, h, ← e, has_row hb hq x]
    have : r = q := by cases r; cases q; simp_all
    rw [this]; exact hq
  exact pw_ext (R := fun a b : Row => strLt a.gloss b.gloss = true) (fun a h => by rw [strLt_irrefl] at h; cases h) (fun a b h k => by rw [strLt_asymm h] at k; cases k) ha.pw hb.pw
    fun r => ⟨one ha hb h r, one hb ha (fun g p => (h g p).symm) r⟩

theorem mem_ins_iff {ps : List Part} {p x : Part} (hp : p.alt = 0) (h : PSorted ps) : x ∈ ins ps p ↔ x ∈ ps ∨ x = p := ⟨ins_mem, mem_ins hp h⟩

theorem atR_row {l : List Row} (h : RGood l) (g : ByteArray) (p : Part) : p ∈ (atR l g).senses ↔ Has l g p := by
  obtain ⟨g1, g2⟩ := lowR_spec h.pw g
  constructor
  · intro hp
    unfold atR at hp
    split at hp
    · split at hp
      · rename_i r hr he
        rw [beq_bytes] at he
        exact ⟨r, List.mem_of_getElem? hr, by simpa using he, hp⟩
      · simp at hp
    · simp at hp
  · rintro ⟨r, hr, rfl, hp⟩
    obtain ⟨j, hj⟩ := List.getElem?_of_mem hr
    have hle : lowR l r.gloss ≤ j := by
      rcases Nat.lt_or_ge j (lowR l r.gloss) with hlt | hge
      · have := g1 j r hlt hj; rw [strLt_irrefl] at this; cases this
      · exact hge
    have hjl := (List.getElem?_eq_some_iff.1 hj).1
    have hy : l[lowR l r.gloss]? = some (l[lowR l r.gloss]'(by omega)) := List.getElem?_eq_getElem (by omega)
    generalize l[lowR l r.gloss]'(by omega) = y at hy
    have e : lowR l r.gloss = j := by
      rcases Nat.lt_or_ge (lowR l r.gloss) j with hlt | hge
      · have h1 := pw_get h.pw hlt hy hj
        rw [g2 _ y (Nat.le_refl _) hy] at h1; cases h1
      · omega
    unfold atR
    rw [e, hj]
    have he : (r.gloss == r.gloss) = true := by rw [beq_bytes]; simp
    simp only [he, if_true]
    exact hp

/-- The rows that are kept, when one is put. -/
theorem has_put {l : List Row} (h : RGood l) {g : ByteArray} {p : Part} (hp : p.alt = 0) (g' : ByteArray) (p' : Part) : Has (putR l g p) g' p' ↔ Has l g' p' ∨ (g' = g ∧ p' = p) := by
  have hput := h.put g hp
  have hnew : (⟨(atR l g).gloss, ins (atR l g).senses p⟩ : Row) ∈ putR l g p := by unfold putR; simp
  have hng : (⟨(atR l g).gloss, ins (atR l g).senses p⟩ : Row).gloss = g := atR_gloss l g
  by_cases e : g' = g
  · subst e
    have h1 := has_row hput hnew p'
    rw [hng] at h1
    rw [h1, mem_ins_iff hp (atR_good h g'), atR_row h]
    simp
  · have hne : ¬ (g' = g ∧ p' = p) := fun h => e h.1
    simp only [hne, or_false]
    obtain ⟨g1, g2⟩ := lowR_spec h.pw g
    constructor
    · rintro ⟨r, hr, hrg, hrp⟩
      rcases putR_mem hr with hr | rfl
      · exact ⟨r, hr, hrg, hrp⟩
      · rw [hng] at hrg; exact absurd hrg.symm e
    · rintro ⟨r, hr, hrg, hrp⟩
      refine ⟨r, ?_, hrg, hrp⟩
      obtain ⟨j, hj⟩ := List.getElem?_of_mem hr
      unfold putR
      rcases Nat.lt_or_ge j (lowR l g) with hlt | hge
      · refine List.mem_append_left _ (List.mem_of_getElem? (i := j) ?_)
        rw [List.getElem?_take, if_pos hlt]; exact hj
      · have hsk : skipR l g ≤ j := by
          unfold skipR
          split
          · rename_i y hy
            split
            · rename_i he
              rcases Nat.lt_or_ge (lowR l g) j with h1 | h1
              · omega
              · have : lowR l g = j := by omega
                rw [this, hj] at hy
                injection hy with hy
                subst hy
                rw [beq_bytes] at he
                simp at he
                rw [he] at hrg
                exact absurd hrg.symm e
            · omega
          · omega
        refine List.mem_append_right _ (List.mem_cons_of_mem _ (List.mem_of_getElem? (i := j - skipR l g) ?_))
        rw [List.getElem?_drop, show skipR l g + (j - skipR l g) = j by omega]; exact hj

theorem has_take {l : List Row} (h : RGood l) {g : ByteArray} {p : Part} (g' : ByteArray) (p' : Part) : Has (takeR l g p) g' p' ↔ Has l g' p' ∧ ¬ (g' = g ∧ p' = p) := by
  have mk : ∀ q : Part, ∀ r : Row, q ∈ keepP (r.gloss == g) p r.senses ↔ q ∈ r.senses ∧ ¬ (r.gloss = g ∧ q = p) := fun q r => by
    unfold keepP
    rw [List.mem_filter, beq_bytes]
    by_cases e : r.gloss = g <;> simp [e]
  constructor
  · rintro ⟨r, hr, rfl, hp⟩
    unfold takeR at hr
    obtain ⟨x, hx, rfl⟩ := List.mem_map.1 (List.mem_filter.1 hr).1
    obtain ⟨h1, h2⟩ := (mk p' x).1 hp
    exact ⟨⟨x, hx, rfl, h1⟩, h2⟩
  · rintro ⟨⟨r, hr, rfl, hp⟩, hn⟩
    have hk := (mk p' r).2 ⟨hp, hn⟩
    refine ⟨⟨r.gloss, keepP (r.gloss == g) p r.senses⟩, ?_, rfl, hk⟩
    unfold takeR
    refine List.mem_filter.2 ⟨List.mem_map.2 ⟨r, hr, rfl⟩, ?_⟩
    have : keepP (r.gloss == g) p r.senses ≠ [] := List.ne_nil_of_mem hk
    simpa using this

/-- The parts of an entry, the first n. -/
def Of (id : Int) (ss : List Sense) (n : Nat) (g : ByteArray) (p : Part) : Prop := ∃ k s, k < n ∧ ss[k]? = some s ∧ g = s.gloss ∧ p = pt id k

theorem Of_succ (id : Int) (ss : List Sense) (n : Nat) (g : ByteArray) (p : Part) : Of id ss (n + 1) g p ↔ Of id ss n g p ∨ ∃ s, ss[n]? = some s ∧ g = s.gloss ∧ p = pt id n := by
  constructor
  · rintro ⟨k, s, hk, h⟩
    by_cases e : k = n
    · subst e; exact .inr ⟨s, h⟩
    · exact .inl ⟨k, s, by omega, h⟩
  · rintro (⟨k, s, hk, h⟩ | ⟨s, h⟩)
    · exact ⟨k, s, by omega, h⟩
    · exact ⟨n, s, by omega, h⟩

theorem has_puts {l : List Row} (h : RGood l) (id : Int) (ss : List Sense) (g : ByteArray) (p : Part) : ∀ n, Has (putsN l id ss n) g p ↔ Has l g p ∨ Of id ss n g p
  | 0 => by simp [putsN, Of]
  | n + 1 => by
    rw [Of_succ]
    simp only [putsN]
    split
    · rename_i s hs
      rw [has_put (puts_good h id ss n) rfl, has_puts h id ss g p n, or_assoc]
      simp [hs]
    · rename_i hs
      rw [has_puts h id ss g p n]
      simp [hs]

theorem has_takes {l : List Row} (h : RGood l) (id : Int) (ss : List Sense) (g : ByteArray) (p : Part) : ∀ n, Has (takesN l id ss n) g p ↔ Has l g p ∧ ¬ Of id ss n g p
  | 0 => by simp [takesN, Of]
  | n + 1 => by
    rw [Of_succ]
    simp only [takesN]
    split
    · rename_i s hs
      rw [has_take (takes_good h id ss n), has_takes h id ss g p n]
      simp [hs, and_assoc]
    · rename_i hs
      rw [has_takes h id ss g p n]
      simp [hs]

/-- The parts of some entries. -/
def All (l : List Entry) (g : ByteArray) (p : Part) : Prop := ∃ e ∈ l, Of e.id e.senses e.senses.length g p

theorem has_build (l : List Entry) (g : ByteArray) (p : Part) : ∀ n, Has (buildN l n) g p ↔ All (l.take n) g p
  | 0 => by simp [buildN, All, Has]
  | n + 1 => by
    simp only [buildN]
    split
    · rename_i e he
      rw [has_puts (build_good l n), has_build l g p n, Go.Dl.take_snoc he]
      simp [All, or_and_right, exists_or]
    · rename_i he
      rw [has_build l g p n, List.take_of_length_le (by simpa using he), List.take_of_length_le (by have := List.getElem?_eq_none_iff.1 he; omega)]

theorem has_buildR (l : List Entry) (g : ByteArray) (p : Part) : Has (buildR l) g p ↔ All l g p := by
  unfold buildR; rw [has_build, List.take_length]

theorem buildR_good (l : List Entry) : RGood (buildR l) := build_good l _

theorem update_good {rows : List Row} (h : RGood rows) (o n : Entry) : RGood (updateR rows o n) := by
  unfold updateR
  have h1 : RGood (if 1 ≤ o.id then takesN rows o.id o.senses o.senses.length else rows) := by split; exact takes_good h _ _ _; exact h
  simp only
  split
  · exact puts_good h1 _ _ _
  · exact h1

def Full (e : Entry) (g : ByteArray) (p : Part) : Prop := 1 ≤ e.id ∧ Of e.id e.senses e.senses.length g p

theorem has_update {rows : List Row} (h : RGood rows) (o n : Entry) (g : ByteArray) (p : Part) : Has (updateR rows o n) g p ↔ (Has rows g p ∧ ¬ Full o g p) ∨ Full n g p := by
  have h1 : RGood (if 1 ≤ o.id then takesN rows o.id o.senses o.senses.length else rows) := by split; exact takes_good h _ _ _; exact h
  have h2 : Has (if 1 ≤ o.id then takesN rows o.id o.senses o.senses.length else rows) g p ↔ Has rows g p ∧ ¬ Full o g p := by
    split
    · rename_i ho; rw [has_takes h]; simp [Full, ho]
    · rename_i ho; simp [Full, ho]
  unfold updateR
  simp only
  split
  · rename_i hn; rw [has_puts h1, h2]; simp [Full, hn]
  · rename_i hn; rw [h2]; simp [Full, hn]
end Go.Proofs.Ytffcabenoakmgaa

/- Contract of the program's Update. -/
namespace Go.Proofs.Ytffcabenoakmgaa
open Go.Dl
attribute [local irreducible] DW DCalls ECalls wk

theorem takes_okc {n : Nat} {rows : List Row} (h : RowsOk n rows) (id : Int) (ss : List Sense) (k : Nat) : RowsOk n (takesN rows id ss k) := takesN_ok h id ss k

--F24
set_option maxRecDepth 10000 in
set_option maxHeartbeats 8000000 in
theorem updateP_D (rows : List Row) (o n : Entry) (hr : RowsOk 2500 rows) (hg : RGood rows) (ho : o.senses.length ≤ 20) (hn : n.senses.length ≤ 20) :
    DCalls Try.prog 24 [dv (.sl 2 (rows.map Row.enc)), .agg (o.enc.map T.c), .agg (n.enc.map T.c)] (dv (.sl 2 ((updateR rows o n).map Row.enc))) := by
  have hNB := NB_big
  have hrl := hr.1
  refine dcalls (N := 27) (rs := [.tmp 6]) (by kernel_rfl) Try.func24 rfl rfl rfl (by simp) ?_
  (repeat' (first | (refine dw_seq ?_) | (refine dw_block ?_) | ((first | (refine dw_reg (N := 27) rfl (by kernel_rfl) ?_) | (refine dw_skip ?_) | (refine dw_exit ?_)); simp (decide := true) only [go_sem, reduceIte, reduceCtorEq, Nat.reduceEqDiff, Nat.reduceAdd, Nat.reduceMul, Nat.reduceSub, Nat.reduceLeDiff, Nat.reduceBEq, Entry.enc]) | (apply dw_cond; (simp (decide := true) only [go_sem, reduceIte, reduceCtorEq, Nat.reduceEqDiff, Nat.reduceAdd, Nat.reduceMul, Nat.reduceSub, Nat.reduceLeDiff, Nat.reduceBEq, Entry.enc]; rfl); all_goals (intro hcnd; first | (exact absurd hcnd (by decide)) | skip)) | ((first | refine guardC_f ?_ ?_ | refine guardC_t ?_ ?_) <;> (intro hcnd; simp (decide := true) only [go_sem, reduceIte, reduceCtorEq, Nat.reduceEqDiff, Nat.reduceAdd, Nat.reduceMul, Nat.reduceSub, Nat.reduceLeDiff, Nat.reduceBEq, hcnd, Entry.enc]))))
  refine CallC.eff (caps := []) [] (open_E rows (by omega) (fun r h => by have := hr.2 r h; omega)) (by simp (decide := true) only [go_sem, reduceIte, reduceCtorEq, Nat.reduceEqDiff, Nat.reduceAdd, Nat.reduceMul, Nat.reduceSub, Nat.reduceLeDiff, Nat.reduceBEq]) (DLeL.of_eq (by simp (decide := true) only [go_sem, reduceIte, reduceCtorEq, Nat.reduceEqDiff, Nat.reduceAdd, Nat.reduceMul, Nat.reduceSub, Nat.reduceLeDiff, Nat.reduceBEq])) (fun k r hk => by cases hk) ⟨by simp, by simp⟩ ?_
  rintro r H1 ⟨rfl, L, jr, hv, hok, h1, h2⟩
  obtain ⟨q1, q2⟩ : (∀ bx, callMemAft bx H1 [] (some 9) 9 = ixM 9 L jr 9) ∧ ∀ bx k, mid k → callMemAft bx H1 [] (some 9) k = ixM 9 L jr k := ⟨fun bx => (ix_new (by omega) hok h1 h2 bx).1, fun bx => (ix_new (by omega) hok h1 h2 bx).2⟩
  have q4 : ∀ bx k, k = 4 ∨ k = 5 → callMemAft bx H1 [] (some 9) k = (bx k).map (Dl.Rows.tr (aft [] (some 9))) := fun bx k hk => by
    have e1 : ¬ mid k := notmid (by omega)
    have e2 : ¬ (9 = k) := by omega
    simp [callMemAft, e1, e2]
  have q44 := fun bx => q4 bx 4 (.inl rfl)
  have q45 := fun bx => q4 bx 5 (.inr rfl)
  simp (decide := true) only [go_sem, reduceIte, reduceCtorEq, Nat.reduceEqDiff, Nat.reduceAdd, Nat.reduceMul, Nat.reduceSub, Nat.reduceLeDiff, Nat.reduceBEq]
  refine dw_weaken (s' := kn 27 [(4, .one (.bx 4 8 0 0)), (5, .one (.bx 5 8 0 0)), (7, .one (.bx 9 2 0 0))] (fun k => if k = 4 then some [o.enc.map T.c] else if k = 5 then some [n.enc.map T.c] else ixM 9 L jr k)) (sub_kn rfl (by simp (decide := true) only [go_sem, reduceIte, reduceCtorEq, Nat.reduceEqDiff, Nat.reduceAdd, Nat.reduceMul, Nat.reduceSub, Nat.reduceLeDiff, Nat.reduceBEq]) (fun k r hk => ?_)) ?_
  · by_cases e4 : k = 4
    · subst e4; rw [← hk]; simp (decide := true) only [go_sem, reduceIte, reduceCtorEq, Nat.reduceEqDiff, Nat.reduceAdd, Nat.reduceMul, Nat.reduceSub, Nat.reduceLeDiff, Nat.reduceBEq, q44, Entry.enc]
    by_cases e5 : k = 5
    · subst e5; rw [← hk]; simp (decide := true) only [go_sem, reduceIte, reduceCtorEq, Nat.reduceEqDiff, Nat.reduceAdd, Nat.reduceMul, Nat.reduceSub, Nat.reduceLeDiff, Nat.reduceBEq, q45, Entry.enc]
    rw [if_neg e4, if_neg e5] at hk
    by_cases e9 : k = 9
    · subst e9; simp (decide := true) only [go_sem, reduceIte, reduceCtorEq, Nat.reduceEqDiff, Nat.reduceAdd, Nat.reduceMul, Nat.reduceSub, Nat.reduceLeDiff, Nat.reduceBEq, q1]; exact hk
    · have q3 := fun bx => q2 bx k (ixM_in hok e9 hk)
      simp (decide := true) only [go_sem, reduceIte, reduceCtorEq, Nat.reduceEqDiff, Nat.reduceAdd, Nat.reduceMul, Nat.reduceSub, Nat.reduceLeDiff, Nat.reduceBEq, q3]; exact hk
  (repeat refine dw_seq ?_)
  refine dw_reg (N := 27) rfl (by kernel_rfl) ?_; simp (decide := true) only [go_sem, reduceIte, reduceCtorEq, Nat.reduceEqDiff, Nat.reduceAdd, Nat.reduceMul, Nat.reduceSub, Nat.reduceLeDiff, Nat.reduceBEq, Entry.enc]
  (repeat refine dw_seq ?_)
  have hgt : RGood (takesN rows o.id o.senses o.senses.length) := takes_good hg _ _ _
  refine dw_joinT (α := List IRow × Nat) (fun y => kn 27 [(5, .one (.bx 5 8 0 0)), (7, .one (.bx 9 2 0 0))] (fun k => if k = 5 then some [n.enc.map T.c] else ixM 9 y.1 y.2 k))
    (fun y => viewL y.1 = (if 1 ≤ o.id then takesN rows o.id o.senses o.senses.length else rows).map vRow ∧ IxOk (1001 + rows.length + 20) y.1) ?_ ?_
  · apply dw_cond; (simp (decide := true) only [go_sem, reduceIte, reduceCtorEq, Nat.reduceEqDiff, Nat.reduceAdd, Nat.reduceMul, Nat.reduceSub, Nat.reduceLeDiff, Nat.reduceBEq]; rfl)
    · intro h1
      have h1' : 1 ≤ o.id := by simpa using h1
      have hbk := view_ok hv hr
      (repeat (first | (refine dw_seq ?_) | (refine dw_block ?_) | ((first | (refine dw_reg (N := 27) rfl (by kernel_rfl) ?_) | (refine dw_skip ?_) | (refine dw_exit ?_)); simp (decide := true) only [go_sem, reduceIte, reduceCtorEq, Nat.reduceEqDiff, Nat.reduceAdd, Nat.reduceMul, Nat.reduceSub, Nat.reduceLeDiff, Nat.reduceBEq, Entry.enc])))
      have hch := change_E (9 + NB) (1001 + rows.length) (by omega) o false L jr hok (by omega) (by omega) (by omega) (by omega) (fun r h => by have := hbk.2 r h; omega)
      have hfg : ∀ (m q : Nat), m < 1000 → (ixM 9 L jr q).map (Dl.Rows.tr (fgt m)) = ixM 9 L jr q := fun m q hm => ixM_tr hok jr (keeps_fgt (notmid hm)) q
      refine CallC.eff (caps := []) [9] hch (by simp (decide := true) only [go_sem, reduceIte, reduceCtorEq, Nat.reduceEqDiff, Nat.reduceAdd, Nat.reduceMul, Nat.reduceSub, Nat.reduceLeDiff, Nat.reduceBEq]) (DLeL.of_eq (by simp (decide := true) only [go_sem, reduceIte, reduceCtorEq, Nat.reduceEqDiff, Nat.reduceAdd, Nat.reduceMul, Nat.reduceSub, Nat.reduceLeDiff, Nat.reduceBEq, Entry.enc])) (ix_call (by omega) hok (by simp (decide := true) only [go_sem, reduceIte, reduceCtorEq, Nat.reduceEqDiff, Nat.reduceAdd, Nat.reduceMul, Nat.reduceSub, Nat.reduceLeDiff, Nat.reduceBEq, hfg]) (fun q hq => ?_)) ⟨by simpa using notmid (by omega), by simp⟩ ?_
      · have hqe : ∀ m, m < 1000 → (q = m) = False := fun m hm => by simp; have := hq.1; omega
        simp (decide := true) only [go_sem, reduceIte, reduceCtorEq, Nat.reduceEqDiff, Nat.reduceAdd, Nat.reduceMul, Nat.reduceSub, Nat.reduceLeDiff, Nat.reduceBEq, hqe, hfg]
      rintro r H2 ⟨rfl, L', jr', hst, hok', g1, g2⟩
      have p := ix_aft (d := 15) (show 9 < 1000 by omega) (by omega) (by omega) hok' g1 g2
      have p5 : ∀ bx, callMemAft bx H2 [9] (some 15) 5 = (bx 5).map (Dl.Rows.tr (aft [9] (some 15))) := fun bx => aft_low (by omega) (by omega) (by simp)
      simp (decide := true) only [go_sem, reduceIte, reduceCtorEq, Nat.reduceEqDiff, Nat.reduceAdd, Nat.reduceMul, Nat.reduceSub, Nat.reduceLeDiff, Nat.reduceBEq]
      refine ⟨(L', jr'), ⟨?_, hok'.mono (by omega) (by omega)⟩, sub_kn rfl (by simp (decide := true) only [go_sem, reduceIte, reduceCtorEq, Nat.reduceEqDiff, Nat.reduceAdd, Nat.reduceMul, Nat.reduceSub, Nat.reduceLeDiff, Nat.reduceBEq]) (fun q r hq => ?_)⟩
      · rw [if_pos h1']
        rw [hv] at hst
        exact steps_take hg _ _ _ _ hst
      · by_cases e5 : q = 5
        · subst e5; rw [← hq]; simp (decide := true) only [go_sem, reduceIte, reduceCtorEq, Nat.reduceEqDiff, Nat.reduceAdd, Nat.reduceMul, Nat.reduceSub, Nat.reduceLeDiff, Nat.reduceBEq, p5, Entry.enc]
        rw [if_neg e5] at hq
        by_cases e : q = 9
        · subst e
          have p1 := fun bx => (p bx).1
          simp (decide := true) only [go_sem, reduceIte, reduceCtorEq, Nat.reduceEqDiff, Nat.reduceAdd, Nat.reduceMul, Nat.reduceSub, Nat.reduceLeDiff, Nat.reduceBEq, p1]
          exact hq
        · have hqm := ixM_in hok' e hq
          have p2 := fun bx => (p bx).2 q hqm
          simp (decide := true) only [go_sem, reduceIte, reduceCtorEq, Nat.reduceEqDiff, Nat.reduceAdd, Nat.reduceMul, Nat.reduceSub, Nat.reduceLeDiff, Nat.reduceBEq, p2]
          exact hq
    · intro h1
      have h1' : ¬ 1 ≤ o.id := by simpa using h1
      refine dw_skip ?_
      simp (decide := true) only [go_sem, reduceIte, reduceCtorEq, Nat.reduceEqDiff, Nat.reduceAdd, Nat.reduceMul, Nat.reduceSub, Nat.reduceLeDiff, Nat.reduceBEq]
      refine ⟨(L, jr), ⟨by rw [if_neg h1']; exact hv, hok.mono (by omega) (by omega)⟩, sub_kn rfl (by simp (decide := true) only [go_sem, reduceIte, reduceCtorEq, Nat.reduceEqDiff, Nat.reduceAdd, Nat.reduceMul, Nat.reduceSub, Nat.reduceLeDiff, Nat.reduceBEq]) (fun q r hq => ?_)⟩
      by_cases e5 : q = 5
      · subst e5; rw [← hq]; simp (decide := true) only [go_sem, reduceIte, reduceCtorEq, Nat.reduceEqDiff, Nat.reduceAdd, Nat.reduceMul, Nat.reduceSub, Nat.reduceLeDiff, Nat.reduceBEq]; rfl
      rw [if_neg e5] at hq
      by_cases e4 : q = 4
      · subst e4
        have := ixM_in hok (by omega) hq
        exact absurd this (notmid (by omega))
      · simp (decide := true) only [go_sem, reduceIte, reduceCtorEq, Nat.reduceEqDiff, Nat.reduceAdd, Nat.reduceMul, Nat.reduceSub, Nat.reduceLeDiff, Nat.reduceBEq, e4, e5]; exact hq
  · rintro ⟨L, jr⟩ ⟨hv, hok⟩
    simp only at hv hok
    have hga : RGood (if 1 ≤ o.id then takesN rows o.id o.senses o.senses.length else rows) := by split; exact hgt; exact hg
    have hra : RowsOk 2500 (if 1 ≤ o.id then takesN rows o.id o.senses o.senses.length else rows) := by split; exact takes_okc hr _ _ _; exact hr
    generalize hA : (if 1 ≤ o.id then takesN rows o.id o.senses o.senses.length else rows) = A at hv hga hra
    (repeat refine dw_seq ?_)
    refine dw_reg (N := 27) rfl (by kernel_rfl) ?_; simp (decide := true) only [go_sem, reduceIte, reduceCtorEq, Nat.reduceEqDiff, Nat.reduceAdd, Nat.reduceMul, Nat.reduceSub, Nat.reduceLeDiff, Nat.reduceBEq, Entry.enc]
    (repeat refine dw_seq ?_)
    refine dw_joinT (α := List IRow × Nat) (fun y => kn 27 [(7, .one (.bx 9 2 0 0))] (ixM 9 y.1 y.2))
      (fun y => viewL y.1 = (updateR rows o n).map vRow ∧ IxOk (1001 + rows.length + 40) y.1) ?_ ?_
    · apply dw_cond; (simp (decide := true) only [go_sem, reduceIte, reduceCtorEq, Nat.reduceEqDiff, Nat.reduceAdd, Nat.reduceMul, Nat.reduceSub, Nat.reduceLeDiff, Nat.reduceBEq]; rfl)
      · intro h1
        have h1' : 1 ≤ n.id := by simpa using h1
        have hbk := view_ok hv hra
        (repeat (first | (refine dw_seq ?_) | (refine dw_block ?_) | ((first | (refine dw_reg (N := 27) rfl (by kernel_rfl) ?_) | (refine dw_skip ?_) | (refine dw_exit ?_)); simp (decide := true) only [go_sem, reduceIte, reduceCtorEq, Nat.reduceEqDiff, Nat.reduceAdd, Nat.reduceMul, Nat.reduceSub, Nat.reduceLeDiff, Nat.reduceBEq, Entry.enc])))
        have hch := change_E (9 + NB) (1001 + rows.length + 20) (by omega) n true L jr hok (by omega) (by omega) (by omega) (by omega) (fun r h => by have := hbk.2 r h; omega)
        have hfg : ∀ (m q : Nat), m < 1000 → (ixM 9 L jr q).map (Dl.Rows.tr (fgt m)) = ixM 9 L jr q := fun m q hm => ixM_tr hok jr (keeps_fgt (notmid hm)) q
        refine CallC.eff (caps := []) [9] hch (by simp (decide := true) only [go_sem, reduceIte, reduceCtorEq, Nat.reduceEqDiff, Nat.reduceAdd, Nat.reduceMul, Nat.reduceSub, Nat.reduceLeDiff, Nat.reduceBEq]) (DLeL.of_eq (by simp (decide := true) only [go_sem, reduceIte, reduceCtorEq, Nat.reduceEqDiff, Nat.reduceAdd, Nat.reduceMul, Nat.reduceSub, Nat.reduceLeDiff, Nat.reduceBEq, Entry.enc])) (ix_call (by omega) hok (by simp (decide := true) only [go_sem, reduceIte, reduceCtorEq, Nat.reduceEqDiff, Nat.reduceAdd, Nat.reduceMul, Nat.reduceSub, Nat.reduceLeDiff, Nat.reduceBEq, hfg]) (fun q hq => ?_)) ⟨by simpa using notmid (by omega), by simp⟩ ?_
        · have hqe : ∀ m, m < 1000 → (q = m) = False := fun m hm => by simp; have := hq.1; omega
          simp (decide := true) only [go_sem, reduceIte, reduceCtorEq, Nat.reduceEqDiff, Nat.reduceAdd, Nat.reduceMul, Nat.reduceSub, Nat.reduceLeDiff, Nat.reduceBEq, hqe, hfg]
        rintro r H2 ⟨rfl, L', jr', hst, hok', g1, g2⟩
        have p := ix_aft (d := 21) (show 9 < 1000 by omega) (by omega) (by omega) hok' g1 g2
        simp (decide := true) only [go_sem, reduceIte, reduceCtorEq, Nat.reduceEqDiff, Nat.reduceAdd, Nat.reduceMul, Nat.reduceSub, Nat.reduceLeDiff, Nat.reduceBEq]
        refine ⟨(L', jr'), ⟨?_, hok'.mono (by omega) (by omega)⟩, sub_kn rfl (by simp (decide := true) only [go_sem, reduceIte, reduceCtorEq, Nat.reduceEqDiff, Nat.reduceAdd, Nat.reduceMul, Nat.reduceSub, Nat.reduceLeDiff, Nat.reduceBEq]) (fun q r hq => ?_)⟩
        · rw [hv] at hst
          have := steps_put hga _ _ _ _ hst
          simp only [updateR, hA, if_pos h1']
          exact this
        · by_cases e : q = 9
          · subst e
            have p1 := fun bx => (p bx).1
            simp (decide := true) only [go_sem, reduceIte, reduceCtorEq, Nat.reduceEqDiff, Nat.reduceAdd, Nat.reduceMul, Nat.reduceSub, Nat.reduceLeDiff, Nat.reduceBEq, p1]
            exact hq
          · have hqm := ixM_in hok' e hq
            have p2 := fun bx => (p bx).2 q hqm
            simp (decide := true) only [go_sem, reduceIte, reduceCtorEq, Nat.reduceEqDiff, Nat.reduceAdd, Nat.reduceMul, Nat.reduceSub, Nat.reduceLeDiff, Nat.reduceBEq, p2]
            exact hq
      · intro h1
        have h1' : ¬ 1 ≤ n.id := by simpa using h1
        refine dw_skip ?_
        simp (decide := true) only [go_sem, reduceIte, reduceCtorEq, Nat.reduceEqDiff, Nat.reduceAdd, Nat.reduceMul, Nat.reduceSub, Nat.reduceLeDiff, Nat.reduceBEq]
        refine ⟨(L, jr), ⟨by simp only [updateR, hA, if_neg h1']; exact hv, hok.mono (by omega) (by omega)⟩, sub_kn rfl (by simp (decide := true) only [go_sem, reduceIte, reduceCtorEq, Nat.reduceEqDiff, Nat.reduceAdd, Nat.reduceMul, Nat.reduceSub, Nat.reduceLeDiff, Nat.reduceBEq]) (fun q r hq => ?_)⟩
        by_cases e5 : q = 5
        · subst e5
          have := ixM_in hok (by omega) hq
          exact absurd this (notmid (by omega))
        · simp (decide := true) only [go_sem, reduceIte, reduceCtorEq, Nat.reduceEqDiff, Nat.reduceAdd, Nat.reduceMul, Nat.reduceSub, Nat.reduceLeDiff, Nat.reduceBEq, e5]; exact hq
    · rintro ⟨L, jr⟩ ⟨hv, hok⟩
      simp only at hv hok
      (repeat' (first | (refine dw_seq ?_) | (refine dw_block ?_) | ((first | (refine dw_reg (N := 27) rfl (by kernel_rfl) ?_) | (refine dw_skip ?_) | (refine dw_exit ?_)); simp (decide := true) only [go_sem, reduceIte, reduceCtorEq, Nat.reduceEqDiff, Nat.reduceAdd, Nat.reduceMul, Nat.reduceSub, Nat.reduceLeDiff, Nat.reduceBEq, ixM_x]) | (apply dw_cond; (simp (decide := true) only [go_sem, reduceIte, reduceCtorEq, Nat.reduceEqDiff, Nat.reduceAdd, Nat.reduceMul, Nat.reduceSub, Nat.reduceLeDiff, Nat.reduceBEq, ixM_x]; rfl); all_goals (intro hcnd; first | (exact absurd hcnd (by decide)) | skip)) | ((first | refine guardC_f ?_ ?_ | refine guardC_t ?_ ?_) <;> (intro hcnd; simp (decide := true) only [go_sem, reduceIte, reduceCtorEq, Nat.reduceEqDiff, Nat.reduceAdd, Nat.reduceMul, Nat.reduceSub, Nat.reduceLeDiff, Nat.reduceBEq, hcnd, ixM_x]))))
      refine dw_weaken (sub_frzIx (t := 6) (cap := L.length + jr) (L := L) (jr := jr) hok (by simp (decide := true) only [go_sem, reduceIte, reduceCtorEq, Nat.reduceEqDiff, Nat.reduceAdd, Nat.reduceMul, Nat.reduceSub, Nat.reduceLeDiff, Nat.reduceBEq]) (by simp (decide := true) only [go_sem, reduceIte, reduceCtorEq, Nat.reduceEqDiff, Nat.reduceAdd, Nat.reduceMul, Nat.reduceSub, Nat.reduceLeDiff, Nat.reduceBEq]; exact ixM_r (by omega) L jr) (fun r hr => ?_)) ?_
      · simp (decide := true) only [go_sem, reduceIte, reduceCtorEq, Nat.reduceEqDiff, Nat.reduceAdd, Nat.reduceMul, Nat.reduceSub, Nat.reduceLeDiff, Nat.reduceBEq]
        exact ixM_k jr hok (notmid (by omega)) hr
      · refine dw_ret ?_; simp (decide := true) only [go_sem, reduceIte, reduceCtorEq, Nat.reduceEqDiff, Nat.reduceAdd, Nat.reduceMul, Nat.reduceSub, Nat.reduceLeDiff, Nat.reduceBEq]
        rw [frow_view hv]
end Go.Proofs.Ytffcabenoakmgaa

/- Contracts of the program: Same, Find, Check. -/
namespace Go.Proofs.Ytffcabenoakmgaa
open Go.Dl
attribute [local irreducible] DW DCalls ECalls wk

theorem maxBig : (1000000 : Nat) < maxLen := by simp [maxLen]

theorem get_same {α : Type} {xs ys : List α} {k : Nat} {x : α} (hl : xs.length = ys.length) (hx : xs[k]? = some x) : ∃ y, ys[k]? = some y := by
  obtain ⟨h, _⟩ := List.getElem?_eq_some_iff.1 hx
  exact ⟨ys[k]'(by omega), List.getElem?_eq_getElem (by omega)⟩

--F40
set_option maxRecDepth 10000 in
theorem equalP_D (xs ys : List Part) (hx : xs.length ≤ 1000000) (hy : ys.length ≤ 1000000) : DCalls Try.prog 40 [dv (.sl 3 (xs.map Part.enc)), dv (.sl 3 (ys.map Part.enc))] (dv (lb (decide (xs = ys)))) := by
  have hmax := maxBig
  refine dcalls (N := 26) (rs := [.tmp 4]) (by kernel_rfl) Try.func40 rfl rfl rfl (by simp) ?_
  (repeat (first | (refine dw_seq ?_) | (refine dw_block ?_) | ((first | (refine dw_reg (N := 26) rfl (by kernel_rfl) ?_) | (apply dw_drw (id := 6) (N := 26) [(0, .light), (1, .light), (2, .light), (3, .light), (4, .light), (5, .light), (6, .light), (7, .light), (8, .light)]; kernel_rfl; rfl; kernel_rfl; (repeat (first | exact Picks.nil | (apply Picks.cons; rfl)))) | (refine dw_skip ?_) | (refine dw_exit ?_)); simp (decide := true) only [go_sem, reduceIte, reduceCtorEq, Nat.reduceEqDiff, Nat.reduceAdd, Nat.reduceMul, Nat.reduceSub, Nat.reduceLeDiff, Nat.reduceBEq])))
  apply dw_cond; (simp (decide := true) only [go_sem, reduceIte, reduceCtorEq, Nat.reduceEqDiff, Nat.reduceAdd, Nat.reduceMul, Nat.reduceSub, Nat.reduceLeDiff, Nat.reduceBEq]; rfl)
  · intro hc
    (repeat (first | (refine dw_seq ?_) | (refine dw_block ?_) | ((first | (refine dw_reg (N := 26) rfl (by kernel_rfl) ?_) | (apply dw_drw (id := 6) (N := 26) [(0, .light), (1, .light), (2, .light), (3, .light), (4, .light), (5, .light), (6, .light), (7, .light), (8, .light)]; kernel_rfl; rfl; kernel_rfl; (repeat (first | exact Picks.nil | (apply Picks.cons; rfl)))) | (refine dw_skip ?_) | (refine dw_exit ?_)); simp (decide := true) only [go_sem, reduceIte, reduceCtorEq, Nat.reduceEqDiff, Nat.reduceAdd, Nat.reduceMul, Nat.reduceSub, Nat.reduceLeDiff, Nat.reduceBEq])))
    refine dw_ret ?_; simp (decide := true) only [go_sem, reduceIte, reduceCtorEq, Nat.reduceEqDiff, Nat.reduceAdd, Nat.reduceMul, Nat.reduceSub, Nat.reduceLeDiff, Nat.reduceBEq]
    have : xs ≠ ys := fun e => by subst e; simp at hc
    simp [this]
  intro hc
  have hl : xs.length = ys.length := by simp at hc; omega
  (repeat (first | (refine dw_seq ?_) | (refine dw_block ?_) | ((first | (refine dw_reg (N := 26) rfl (by kernel_rfl) ?_) | (apply dw_drw (id := 6) (N := 26) [(0, .light), (1, .light), (2, .light), (3, .light), (4, .light), (5, .light), (6, .light), (7, .light), (8, .light)]; kernel_rfl; rfl; kernel_rfl; (repeat (first | exact Picks.nil | (apply Picks.cons; rfl)))) | (refine dw_skip ?_) | (refine dw_exit ?_)); simp (decide := true) only [go_sem, reduceIte, reduceCtorEq, Nat.reduceEqDiff, Nat.reduceAdd, Nat.reduceMul, Nat.reduceSub, Nat.reduceLeDiff, Nat.reduceBEq])))
  refine dw_rng xs (fun k (_ : Unit) => kn 26 [(0, dv (.sl 3 (xs.map Part.enc))), (1, dv (.sl 3 (ys.map Part.enc))), (12, dv (li xs.length)), (13, dv (li k))] noMem) (fun k _ => xs.take k = ys.take k) () (by omega) (sub_kn rfl (by simp (decide := true) only [go_sem, reduceIte, reduceCtorEq, Nat.reduceEqDiff, Nat.reduceAdd, Nat.reduceMul, Nat.reduceSub, Nat.reduceLeDiff, Nat.reduceBEq]) (by simp [noMem])) (by simp) ?_ ?_
  · intro k x _ hx1 hk hm ht hd hw hi
    obtain ⟨y, hy1⟩ := get_same hl hx1
    (repeat' (first | (refine dw_seq ?_) | (refine dw_block ?_) | ((first | (refine dw_reg (N := 26) rfl (by kernel_rfl) ?_) | (apply dw_drw (id := 6) (N := 26) [(0, .light), (1, .light), (2, .light), (3, .light), (4, .light), (5, .light), (6, .light), (7, .light), (8, .light)]; kernel_rfl; rfl; kernel_rfl; (repeat (first | exact Picks.nil | (apply Picks.cons; rfl)))) | (refine dw_skip ?_) | (refine dw_exit ?_) | (refine dw_ret ?_)); simp (decide := true) only [go_sem, reduceIte, reduceCtorEq, Nat.reduceEqDiff, Nat.reduceAdd, Nat.reduceMul, Nat.reduceSub, Nat.reduceLeDiff, Nat.reduceBEq, hd, hx1, hy1, Part.enc, hw]) | (apply dw_cond; (simp (decide := true) only [go_sem, reduceIte, reduceCtorEq, Nat.reduceEqDiff, Nat.reduceAdd, Nat.reduceMul, Nat.reduceSub, Nat.reduceLeDiff, Nat.reduceBEq, hd, hx1, hy1, Part.enc, hw]; rfl); all_goals (intro hcnd; first | (exact absurd hcnd (by decide)) | skip)) | ((first | refine guardC_f ?_ ?_ | refine guardC_t ?_ ?_) <;> (intro hcnd; simp (decide := true) only [go_sem, reduceIte, reduceCtorEq, Nat.reduceEqDiff, Nat.reduceAdd, Nat.reduceMul, Nat.reduceSub, Nat.reduceLeDiff, Nat.reduceBEq, hcnd, hd, hx1, hy1, Part.enc, hw]))))
    · have : xs ≠ ys := fun e => by
        subst e; rw [hx1] at hy1; injection hy1 with hy1; subst hy1; simp at hcnd
      simp [this]
    · refine ⟨(), ?_, sub_kn rfl (by simp (decide := true) only [go_sem, reduceIte, reduceCtorEq, Nat.reduceEqDiff, Nat.reduceAdd, Nat.reduceMul, Nat.reduceSub, Nat.reduceLeDiff, Nat.reduceBEq]) (by simp [noMem])⟩
      rw [ht, take_snoc hy1, hi]
      have : x = y := by
        rw [part_ext]
        simp at hcnd; exact hcnd
      rw [this]
  · intro _ hd hi
    (repeat' (first | (refine dw_seq ?_) | (refine dw_block ?_) | ((first | (refine dw_reg (N := 26) rfl (by kernel_rfl) ?_) | (apply dw_drw (id := 6) (N := 26) [(0, .light), (1, .light), (2, .light), (3, .light), (4, .light), (5, .light), (6, .light), (7, .light), (8, .light)]; kernel_rfl; rfl; kernel_rfl; (repeat (first | exact Picks.nil | (apply Picks.cons; rfl)))) | (refine dw_skip ?_) | (refine dw_exit ?_) | (refine dw_ret ?_)); simp (decide := true) only [go_sem, reduceIte, reduceCtorEq, Nat.reduceEqDiff, Nat.reduceAdd, Nat.reduceMul, Nat.reduceSub, Nat.reduceLeDiff, Nat.reduceBEq, hd]) | (apply dw_cond; (simp (decide := true) only [go_sem, reduceIte, reduceCtorEq, Nat.reduceEqDiff, Nat.reduceAdd, Nat.reduceMul, Nat.reduceSub, Nat.reduceLeDiff, Nat.reduceBEq, hd]; rfl); all_goals (intro hcnd; first | (exact absurd hcnd (by decide)) | skip)) | ((first | refine guardC_f ?_ ?_ | refine guardC_t ?_ ?_) <;> (intro hcnd; simp (decide := true) only [go_sem, reduceIte, reduceCtorEq, Nat.reduceEqDiff, Nat.reduceAdd, Nat.reduceMul, Nat.reduceSub, Nat.reduceLeDiff, Nat.reduceBEq, hcnd, hd]))))
    rw [List.take_length, hl, List.take_length] at hi
    simp [hi]

theorem row_eq (a b : Row) : decide (a = b) = ((a.gloss == b.gloss) && decide (a.senses = b.senses)) := by
  cases a; cases b
  rw [beq_bytes]
  simp [Row.mk.injEq, Bool.decide_and]

--F39
theorem sameRow_D (a b : Row) (ha : a.senses.length ≤ 1000000) (hb : b.senses.length ≤ 1000000) : DCalls Try.prog 39 [.agg (a.enc.map T.c), .agg (b.enc.map T.c)] (dv (lb (decide (a = b)))) := by
  refine dcalls (N := 17) (rs := [.tmp 4]) (by kernel_rfl) Try.func39 rfl rfl rfl (by simp) ?_
  rw [row_eq]
  (repeat' (first | (refine dw_seq ?_) | (refine dw_block ?_) | ((first | (refine dw_reg (N := 17) rfl (by kernel_rfl) ?_) | (refine dw_skip ?_) | (refine dw_exit ?_) | (refine CallC.mk (equalP_D a.senses b.senses ha hb) (LeL.of_eq rfl) ?_) | (refine CallC.light (equalP_D a.senses b.senses ha hb) (LeL.of_eq rfl) ?_) | (refine dw_ret ?_)); simp (decide := true) only [go_sem, reduceIte, reduceCtorEq, Nat.reduceEqDiff, Nat.reduceAdd, Nat.reduceMul, Nat.reduceSub, Nat.reduceLeDiff, Nat.reduceBEq, Row.enc]) | (apply dw_cond; (simp (decide := true) only [go_sem, reduceIte, reduceCtorEq, Nat.reduceEqDiff, Nat.reduceAdd, Nat.reduceMul, Nat.reduceSub, Nat.reduceLeDiff, Nat.reduceBEq, Row.enc]; rfl); all_goals (intro hcnd; first | (exact absurd hcnd (by decide)) | skip)) | ((first | refine guardC_f ?_ ?_ | refine guardC_t ?_ ?_) <;> (intro hcnd; simp (decide := true) only [go_sem, reduceIte, reduceCtorEq, Nat.reduceEqDiff, Nat.reduceAdd, Nat.reduceMul, Nat.reduceSub, Nat.reduceLeDiff, Nat.reduceBEq, hcnd, Row.enc]))))

--F38
set_option maxRecDepth 10000 in
theorem eqFuncR_D (xs ys : List Row) (hx : xs.length ≤ 1000000) (hy : ys.length ≤ 1000000) (hxs : ∀ r ∈ xs, r.senses.length ≤ 1000000) (hys : ∀ r ∈ ys, r.senses.length ≤ 1000000) :
    DCalls Try.prog 38 [dv (.sl 2 (xs.map Row.enc)), dv (.sl 2 (ys.map Row.enc)), dv (.fn 39 [])] (dv (lb (decide (xs = ys)))) := by
  have hmax := maxBig
  refine dcalls (N := 32) (rs := [.tmp 6]) (by kernel_rfl) Try.func38 rfl rfl rfl (by simp) ?_
  (repeat (first | (refine dw_seq ?_) | (refine dw_block ?_) | ((first | (refine dw_reg (N := 32) rfl (by kernel_rfl) ?_) | (refine dw_skip ?_) | (refine dw_exit ?_)); simp (decide := true) only [go_sem, reduceIte, reduceCtorEq, Nat.reduceEqDiff, Nat.reduceAdd, Nat.reduceMul, Nat.reduceSub, Nat.reduceLeDiff, Nat.reduceBEq])))
  apply dw_cond; (simp (decide := true) only [go_sem, reduceIte, reduceCtorEq, Nat.reduceEqDiff, Nat.reduceAdd, Nat.reduceMul, Nat.reduceSub, Nat.reduceLeDiff, Nat.reduceBEq]; rfl)
  · intro hc
    (repeat (first | (refine dw_seq ?_) | (refine dw_block ?_) | ((first | (refine dw_reg (N := 32) rfl (by kernel_rfl) ?_) | (refine dw_skip ?_) | (refine dw_exit ?_)); simp (decide := true) only [go_sem, reduceIte, reduceCtorEq, Nat.reduceEqDiff, Nat.reduceAdd, Nat.reduceMul, Nat.reduceSub, Nat.reduceLeDiff, Nat.reduceBEq])))
    refine dw_ret ?_; simp (decide := true) only [go_sem, reduceIte, reduceCtorEq, Nat.reduceEqDiff, Nat.reduceAdd, Nat.reduceMul, Nat.reduceSub, Nat.reduceLeDiff, Nat.reduceBEq]
    have : xs ≠ ys := fun e => by subst e; simp at hc
    simp [this]
  intro hc
  have hl : xs.length = ys.length := by simp at hc; omega
  (repeat (first | (refine dw_seq ?_) | (refine dw_block ?_) | ((first | (refine dw_reg (N := 32) rfl (by kernel_rfl) ?_) | (refine dw_skip ?_) | (refine dw_exit ?_)); simp (decide := true) only [go_sem, reduceIte, reduceCtorEq, Nat.reduceEqDiff, Nat.reduceAdd, Nat.reduceMul, Nat.reduceSub, Nat.reduceLeDiff, Nat.reduceBEq])))
  refine dw_rng xs (fun k (_ : Unit) => kn 32 [(1, dv (.sl 2 (ys.map Row.enc))), (2, dv (.fn 39 [])), (15, dv (.sl 2 (xs.map Row.enc))), (16, dv (li xs.length)), (17, dv (li k))] noMem) (fun k _ => xs.take k = ys.take k) () (by omega) (sub_kn rfl (by simp (decide := true) only [go_sem, reduceIte, reduceCtorEq, Nat.reduceEqDiff, Nat.reduceAdd, Nat.reduceMul, Nat.reduceSub, Nat.reduceLeDiff, Nat.reduceBEq]) (by simp [noMem])) (by simp) ?_ ?_
  · intro k x _ hx1 hk hm ht hd hw hi
    obtain ⟨y, hy1⟩ := get_same hl hx1
    (repeat' (first | (refine dw_seq ?_) | (refine dw_block ?_) | ((first | (refine dw_reg (N := 32) rfl (by kernel_rfl) ?_) | (refine dw_skip ?_) | (refine dw_exit ?_) | (refine CallC.mk (sameRow_D x y (hxs x hm) (hys y (List.mem_of_getElem? hy1))) (LeL.of_eq rfl) ?_) | (refine CallC.light (sameRow_D x y (hxs x hm) (hys y (List.mem_of_getElem? hy1))) (LeL.of_eq rfl) ?_) | (refine dw_ret ?_)); simp (decide := true) only [go_sem, reduceIte, reduceCtorEq, Nat.reduceEqDiff, Nat.reduceAdd, Nat.reduceMul, Nat.reduceSub, Nat.reduceLeDiff, Nat.reduceBEq, hd, hx1, hy1, Row.enc, hw]) | (apply dw_cond; (simp (decide := true) only [go_sem, reduceIte, reduceCtorEq, Nat.reduceEqDiff, Nat.reduceAdd, Nat.reduceMul, Nat.reduceSub, Nat.reduceLeDiff, Nat.reduceBEq, hd, hx1, hy1, Row.enc, hw]; rfl); all_goals (intro hcnd; first | (exact absurd hcnd (by decide)) | skip)) | ((first | refine guardC_f ?_ ?_ | refine guardC_t ?_ ?_) <;> (intro hcnd; simp (decide := true) only [go_sem, reduceIte, reduceCtorEq, Nat.reduceEqDiff, Nat.reduceAdd, Nat.reduceMul, Nat.reduceSub, Nat.reduceLeDiff, Nat.reduceBEq, hcnd, hd, hx1, hy1, Row.enc, hw]))))
    · have : xs ≠ ys := fun e => by
        subst e; rw [hx1] at hy1; injection hy1 with hy1; subst hy1; simp at hcnd
      simp [this]
    · refine ⟨(), ?_, sub_kn rfl (by simp (decide := true) only [go_sem, reduceIte, reduceCtorEq, Nat.reduceEqDiff, Nat.reduceAdd, Nat.reduceMul, Nat.reduceSub, Nat.reduceLeDiff, Nat.reduceBEq]) (by simp [noMem])⟩
      rw [ht, take_snoc hy1, hi]
      have : x = y := by simpa using hcnd
      rw [this]
  · intro _ hd hi
    (repeat' (first | (refine dw_seq ?_) | (refine dw_block ?_) | ((first | (refine dw_reg (N := 32) rfl (by kernel_rfl) ?_) | (refine dw_skip ?_) | (refine dw_exit ?_) | (refine dw_ret ?_)); simp (decide := true) only [go_sem, reduceIte, reduceCtorEq, Nat.reduceEqDiff, Nat.reduceAdd, Nat.reduceMul, Nat.reduceSub, Nat.reduceLeDiff, Nat.reduceBEq, hd]) | (apply dw_cond; (simp (decide := true) only [go_sem, reduceIte, reduceCtorEq, Nat.reduceEqDiff, Nat.reduceAdd, Nat.reduceMul, Nat.reduceSub, Nat.reduceLeDiff, Nat.reduceBEq, hd]; rfl); all_goals (intro hcnd; first | (exact absurd hcnd (by decide)) | skip)) | ((first | refine guardC_f ?_ ?_ | refine guardC_t ?_ ?_) <;> (intro hcnd; simp (decide := true) only [go_sem, reduceIte, reduceCtorEq, Nat.reduceEqDiff, Nat.reduceAdd, Nat.reduceMul, Nat.reduceSub, Nat.reduceLeDiff, Nat.reduceBEq, hcnd, hd]))))
    rw [List.take_length, hl, List.take_length] at hi
    simp [hi]

--F26
theorem sameP_D (xs ys : List Row) (hx : xs.length ≤ 1000000) (hy : ys.length ≤ 1000000) (hxs : ∀ r ∈ xs, r.senses.length ≤ 1000000) (hys : ∀ r ∈ ys, r.senses.length ≤ 1000000) :
    DCalls Try.prog 26 [dv (.sl 2 (xs.map Row.enc)), dv (.sl 2 (ys.map Row.enc))] (dv (lb (decide (xs = ys)))) := by
  refine dcalls (N := 8) (rs := [.tmp 4]) (by kernel_rfl) Try.func26 rfl rfl rfl (by simp) ?_
  (repeat' (first | (refine dw_seq ?_) | (refine dw_block ?_) | ((first | (refine dw_reg (N := 8) rfl (by kernel_rfl) ?_) | (refine dw_skip ?_) | (refine dw_exit ?_) | (refine CallC.mk (eqFuncR_D xs ys hx hy hxs hys) (LeL.of_eq rfl) ?_) | (refine CallC.light (eqFuncR_D xs ys hx hy hxs hys) (LeL.of_eq rfl) ?_) | (refine dw_ret ?_)); simp (decide := true) only [go_sem, reduceIte, reduceCtorEq, Nat.reduceEqDiff, Nat.reduceAdd, Nat.reduceMul, Nat.reduceSub, Nat.reduceLeDiff, Nat.reduceBEq]) | (apply dw_cond; (simp (decide := true) only [go_sem, reduceIte, reduceCtorEq, Nat.reduceEqDiff, Nat.reduceAdd, Nat.reduceMul, Nat.reduceSub, Nat.reduceLeDiff, Nat.reduceBEq]; rfl); all_goals (intro hcnd; first | (exact absurd hcnd (by decide)) | skip)) | ((first | refine guardC_f ?_ ?_ | refine guardC_t ?_ ?_) <;> (intro hcnd; simp (decide := true) only [go_sem, reduceIte, reduceCtorEq, Nat.reduceEqDiff, Nat.reduceAdd, Nat.reduceMul, Nat.reduceSub, Nat.reduceLeDiff, Nat.reduceBEq, hcnd]))))

--F21
set_option maxRecDepth 10000 in
theorem findP_D (l : List Row) (g : ByteArray) (hl : l.length ≤ 1000000) : DCalls Try.prog 21 [dv (.sl 2 (l.map Row.enc)), dv (ls g)] (dv (.sl 3 ((findR l g).map Part.enc))) := by
  have hmax := maxBig
  refine dcalls (N := 20) (rs := [.tmp 4]) (by kernel_rfl) Try.func21 rfl rfl rfl (by simp) ?_
  (repeat (first | (refine dw_seq ?_) | (refine dw_block ?_) | ((first | (refine dw_reg (N := 20) rfl (by kernel_rfl) ?_) | (refine dw_skip ?_) | (refine dw_exit ?_)); simp (decide := true) only [go_sem, reduceIte, reduceCtorEq, Nat.reduceEqDiff, Nat.reduceAdd, Nat.reduceMul, Nat.reduceSub, Nat.reduceLeDiff, Nat.reduceBEq])))
  refine dw_rng l (fun k (_ : Unit) => kn 20 [(1, dv (ls g)), (7, dv (.sl 2 (l.map Row.enc))), (8, dv (li l.length)), (9, dv (li k))] noMem) (fun k _ => ∀ j < k, findAt l g j = none) () (by omega) (sub_kn rfl (by simp (decide := true) only [go_sem, reduceIte, reduceCtorEq, Nat.reduceEqDiff, Nat.reduceAdd, Nat.reduceMul, Nat.reduceSub, Nat.reduceLeDiff, Nat.reduceBEq]) (by simp [noMem])) (fun j hj => by omega) ?_ ?_
  · intro k x _ hx1 hk hm ht hd hw hi
    (repeat' (first | (refine dw_seq ?_) | (refine dw_block ?_) | ((first | (refine dw_reg (N := 20) rfl (by kernel_rfl) ?_) | (refine dw_skip ?_) | (refine dw_exit ?_) | (refine dw_ret ?_)); simp (decide := true) only [go_sem, reduceIte, reduceCtorEq, Nat.reduceEqDiff, Nat.reduceAdd, Nat.reduceMul, Nat.reduceSub, Nat.reduceLeDiff, Nat.reduceBEq, hd, hx1, Row.enc, hw]) | (apply dw_cond; (simp (decide := true) only [go_sem, reduceIte, reduceCtorEq, Nat.reduceEqDiff, Nat.reduceAdd, Nat.reduceMul, Nat.reduceSub, Nat.reduceLeDiff, Nat.reduceBEq, hd, hx1, Row.enc, hw]; rfl); all_goals (intro hcnd; first | (exact absurd hcnd (by decide)) | skip)) | ((first | refine guardC_f ?_ ?_ | refine guardC_t ?_ ?_) <;> (intro hcnd; simp (decide := true) only [go_sem, reduceIte, reduceCtorEq, Nat.reduceEqDiff, Nat.reduceAdd, Nat.reduceMul, Nat.reduceSub, Nat.reduceLeDiff, Nat.reduceBEq, hcnd, hd, hx1, Row.enc, hw]))))
    · simp [findR, fs_some hi hk (by simp [findAt, hx1, hcnd] : findAt l g k = some x.senses)]
    · exact ⟨(), below_succ hi (by simp [findAt, hx1, hcnd]), sub_kn rfl (by simp (decide := true) only [go_sem, reduceIte, reduceCtorEq, Nat.reduceEqDiff, Nat.reduceAdd, Nat.reduceMul, Nat.reduceSub, Nat.reduceLeDiff, Nat.reduceBEq]) (by simp [noMem])⟩
  · intro _ hd hi
    (repeat' (first | (refine dw_seq ?_) | (refine dw_block ?_) | ((first | (refine dw_reg (N := 20) rfl (by kernel_rfl) ?_) | (refine dw_skip ?_) | (refine dw_exit ?_)); simp (decide := true) only [go_sem, reduceIte, reduceCtorEq, Nat.reduceEqDiff, Nat.reduceAdd, Nat.reduceMul, Nat.reduceSub, Nat.reduceLeDiff, Nat.reduceBEq, hd]) | (apply dw_cond; (simp (decide := true) only [go_sem, reduceIte, reduceCtorEq, Nat.reduceEqDiff, Nat.reduceAdd, Nat.reduceMul, Nat.reduceSub, Nat.reduceLeDiff, Nat.reduceBEq, hd]; rfl); all_goals (intro hcnd; first | (exact absurd hcnd (by decide)) | skip)) | ((first | refine guardC_f ?_ ?_ | refine guardC_t ?_ ?_) <;> (intro hcnd; simp (decide := true) only [go_sem, reduceIte, reduceCtorEq, Nat.reduceEqDiff, Nat.reduceAdd, Nat.reduceMul, Nat.reduceSub, Nat.reduceLeDiff, Nat.reduceBEq, hcnd, hd]))))
    refine dw_slot 4 (dv (.sl 3 [])) (by simp (decide := true) only [go_sem, reduceIte, reduceCtorEq, Nat.reduceEqDiff, Nat.reduceAdd, Nat.reduceMul, Nat.reduceSub, Nat.reduceLeDiff, Nat.reduceBEq]) ?_
    refine dw_ret ?_; simp (decide := true) only [go_sem, reduceIte, reduceCtorEq, Nat.reduceEqDiff, Nat.reduceAdd, Nat.reduceMul, Nat.reduceSub, Nat.reduceLeDiff, Nat.reduceBEq]
    simp [findR, fs_none hi]
end Go.Proofs.Ytffcabenoakmgaa

/- Contract of the program's Check. -/
namespace Go.Proofs.Ytffcabenoakmgaa
open Go.Dl
attribute [local irreducible] DW DCalls ECalls wk

theorem cmpP_le {p q : Part} (hp : p.alt = 0) (hq : q.alt = 0) : decide (cmpP p q ≤ 0) = !(q.lt p) := by
  have h1 := cmpP_lt hp hq
  have h2 := cmpP_eq hp hq
  have h3 := cmpP_lt hq hp
  cases hc : q.lt p with
  | true =>
    have : ¬ cmpP p q ≤ 0 := fun h => by
      rcases Int.lt_or_eq_of_le h with h | h
      · have := Part.lt_trans (h1.1 h) hc; rw [Part.lt_irrefl] at this; cases this
      · rw [h2.1 h, Part.lt_irrefl] at hc; cases hc
    simp [this]
  | false =>
    have : cmpP p q ≤ 0 := by
      cases hd : p.lt q with
      | true => have := h1.2 hd; omega
      | false => have := h2.2 (Part.lt_tri hp hq hd hc); omega
    simp [this]

theorem partAt_alt {ps : List Part} {k : Nat} {p : Part} (hp : ps[k]? = some p) (h : partAt ps k = none) : p.alt = 0 := by
  unfold partAt at h
  rw [hp] at h
  simp only at h
  split at h
  · cases h
  · rename_i hg
    have : ¬ p.alt ≠ 0 := fun e => hg (.inr (.inl e))
    simpa using this

--F18
set_option maxRecDepth 10000 in
set_option maxHeartbeats 4000000 in
theorem checkP_D (l : List Row) (hl : l.length ≤ 1000000) (hs : ∀ r ∈ l, r.senses.length ≤ 1000000) : DCalls Try.prog 18 [dv (.sl 2 (l.map Row.enc))] (dv (li (checkR l))) := by
  have hmax := maxBig
  refine dcalls (N := 67) (rs := [.tmp 2]) (by kernel_rfl) Try.func18 rfl rfl rfl (by simp) ?_
  (repeat (first | (refine dw_seq ?_) | (refine dw_block ?_) | ((first | (refine dw_reg (N := 67) rfl (by kernel_rfl) ?_) | (apply dw_drw (id := 4) (N := 67) [(0, .light), (1, .light), (2, .light), (3, .light), (4, .light), (5, .light), (6, .light), (7, .light), (8, .light), (9, .light), (10, .light), (11, .light), (12, .light)]; kernel_rfl; rfl; kernel_rfl; (repeat (first | exact Picks.nil | (apply Picks.cons; rfl)))) | (apply dw_drw (id := 13) (N := 67) [(0, .light), (1, .light), (2, .light), (3, .light), (4, .light), (5, .light), (6, .light), (7, .light), (8, .light), (9, .light), (10, .step), (11, .light), (12, .light)]; kernel_rfl; rfl; kernel_rfl; (repeat (first | exact Picks.nil | (apply Picks.cons; rfl)))) | (refine dw_skip ?_) | (refine dw_exit ?_)); simp (decide := true) only [go_sem, reduceIte, reduceCtorEq, Nat.reduceEqDiff, Nat.reduceAdd, Nat.reduceMul, Nat.reduceSub, Nat.reduceLeDiff, Nat.reduceBEq])))
  refine dw_rng l (fun k (_ : Unit) => kn 67 [(0, dv (.sl 2 (l.map Row.enc))), (7, dv (.sl 2 (l.map Row.enc))), (8, dv (li l.length)), (9, dv (li k))] noMem) (fun k _ => ∀ j < k, rowAtC l j = none) () (by omega) (sub_kn rfl (by simp (decide := true) only [go_sem, reduceIte, reduceCtorEq, Nat.reduceEqDiff, Nat.reduceAdd, Nat.reduceMul, Nat.reduceSub, Nat.reduceLeDiff, Nat.reduceBEq]) (by simp [noMem])) (fun j hj => by omega) ?_ ?_
  · intro k x _ hx1 hk hm ht hd hw hi
    have hxs := hs x hm
    (repeat (first | (refine dw_seq ?_) | (refine dw_block ?_) | ((first | (refine dw_reg (N := 67) rfl (by kernel_rfl) ?_) | (apply dw_drw (id := 4) (N := 67) [(0, .light), (1, .light), (2, .light), (3, .light), (4, .light), (5, .light), (6, .light), (7, .light), (8, .light), (9, .light), (10, .light), (11, .light), (12, .light)]; kernel_rfl; rfl; kernel_rfl; (repeat (first | exact Picks.nil | (apply Picks.cons; rfl)))) | (apply dw_drw (id := 13) (N := 67) [(0, .light), (1, .light), (2, .light), (3, .light), (4, .light), (5, .light), (6, .light), (7, .light), (8, .light), (9, .light), (10, .step), (11, .light), (12, .light)]; kernel_rfl; rfl; kernel_rfl; (repeat (first | exact Picks.nil | (apply Picks.cons; rfl)))) | (refine dw_skip ?_) | (refine dw_exit ?_)); simp (decide := true) only [go_sem, reduceIte, reduceCtorEq, Nat.reduceEqDiff, Nat.reduceAdd, Nat.reduceMul, Nat.reduceSub, Nat.reduceLeDiff, Nat.reduceBEq, hd])))
    apply dw_cond; (simp (decide := true) only [go_sem, reduceIte, reduceCtorEq, Nat.reduceEqDiff, Nat.reduceAdd, Nat.reduceMul, Nat.reduceSub, Nat.reduceLeDiff, Nat.reduceBEq]; rfl)
    · intro _
      refine dw_skip ?_
      simp (decide := true) only [go_sem, reduceIte, reduceCtorEq, Nat.reduceEqDiff, Nat.reduceAdd, Nat.reduceMul, Nat.reduceSub, Nat.reduceLeDiff, Nat.reduceBEq]
      refine dw_seq ?_
      refine dw_block ?_
      refine dw_seq ?_
      refine dw_reg (N := 67) rfl (by kernel_rfl) ?_; simp (decide := true) only [go_sem, reduceIte, reduceCtorEq, Nat.reduceEqDiff, Nat.reduceAdd, Nat.reduceMul, Nat.reduceSub, Nat.reduceLeDiff, Nat.reduceBEq, hx1, Row.enc]
      refine dw_mid (kn 67 [(0, dv (.sl 2 (l.map Row.enc))), (4, .one (.bx 4 2 0 0)), (7, dv (.sl 2 (l.map Row.enc))), (8, dv (li l.length)), (9, dv (li k))] (ml [(4, [x.enc.map T.c])])) (rowAtC l k = if x.senses = [] then some 4 else fs x.senses.length (partAt x.senses)) ?_ ?_
      · rcases Nat.eq_zero_or_pos k with hk0 | hk0
        · have hg : decide ((0 : Int) < (k : Int)) = false := by simp; omega
          (repeat' (first | (refine dw_seq ?_) | (refine dw_block ?_) | ((first | (refine dw_reg (N := 67) rfl (by kernel_rfl) ?_) | (apply dw_drw (id := 4) (N := 67) [(0, .light), (1, .light), (2, .light), (3, .light), (4, .light), (5, .light), (6, .light), (7, .light), (8, .light), (9, .light), (10, .light), (11, .light), (12, .light)]; kernel_rfl; rfl; kernel_rfl; (repeat (first | exact Picks.nil | (apply Picks.cons; rfl)))) | (apply dw_drw (id := 13) (N := 67) [(0, .light), (1, .light), (2, .light), (3, .light), (4, .light), (5, .light), (6, .light), (7, .light), (8, .light), (9, .light), (10, .step), (11, .light), (12, .light)]; kernel_rfl; rfl; kernel_rfl; (repeat (first | exact Picks.nil | (apply Picks.cons; rfl)))) | (refine dw_skip ?_) | (refine dw_exit ?_)); simp (decide := true) only [go_sem, reduceIte, reduceCtorEq, Nat.reduceEqDiff, Nat.reduceAdd, Nat.reduceMul, Nat.reduceSub, Nat.reduceLeDiff, Nat.reduceBEq, hg]) | (apply dw_cond; (simp (decide := true) only [go_sem, reduceIte, reduceCtorEq, Nat.reduceEqDiff, Nat.reduceAdd, Nat.reduceMul, Nat.reduceSub, Nat.reduceLeDiff, Nat.reduceBEq, hg]; rfl); all_goals (intro hcnd; first | (exact absurd hcnd (by decide)) | skip)) | ((first | refine guardC_f ?_ ?_ | refine guardC_t ?_ ?_) <;> (intro hcnd; simp (decide := true) only [go_sem, reduceIte, reduceCtorEq, Nat.reduceEqDiff, Nat.reduceAdd, Nat.reduceMul, Nat.reduceSub, Nat.reduceLeDiff, Nat.reduceBEq, hcnd, hg]))))
          exact ⟨by subst hk0; simp [rowAtC, hx1], sub_ml rfl (by simp (decide := true) only [go_sem, reduceIte, reduceCtorEq, Nat.reduceEqDiff, Nat.reduceAdd, Nat.reduceMul, Nat.reduceSub, Nat.reduceLeDiff, Nat.reduceBEq]) (by simp (decide := true) only [go_sem, reduceIte, reduceCtorEq, Nat.reduceEqDiff, Nat.reduceAdd, Nat.reduceMul, Nat.reduceSub, Nat.reduceLeDiff, Nat.reduceBEq, Row.enc])⟩
        · have hg : decide ((0 : Int) < (k : Int)) = true := by simpa using hk0
          obtain ⟨y, hy1⟩ : ∃ y, l[k - 1]? = some y := ⟨l[k - 1]'(by omega), List.getElem?_eq_getElem (by omega)⟩
          have hwp := wrap_pred k hk0 (by omega)
          (repeat' (first | (refine dw_seq ?_) | (refine dw_block ?_) | ((first | (refine dw_reg (N := 67) rfl (by kernel_rfl) ?_) | (apply dw_drw (id := 4) (N := 67) [(0, .light), (1, .light), (2, .light), (3, .light), (4, .light), (5, .light), (6, .light), (7, .light), (8, .light), (9, .light), (10, .light), (11, .light), (12, .light)]; kernel_rfl; rfl; kernel_rfl; (repeat (first | exact Picks.nil | (apply Picks.cons; rfl)))) | (apply dw_drw (id := 13) (N := 67) [(0, .light), (1, .light), (2, .light), (3, .light), (4, .light), (5, .light), (6, .light), (7, .light), (8, .light), (9, .light), (10, .step), (11, .light), (12, .light)]; kernel_rfl; rfl; kernel_rfl; (repeat (first | exact Picks.nil | (apply Picks.cons; rfl)))) | (refine dw_skip ?_) | (refine dw_exit ?_) | (refine dw_ret ?_)); simp (decide := true) only [go_sem, reduceIte, reduceCtorEq, Nat.reduceEqDiff, Nat.reduceAdd, Nat.reduceMul, Nat.reduceSub, Nat.reduceLeDiff, Nat.reduceBEq, hg, hwp, hx1, hy1, Row.enc]) | (apply dw_cond; (simp (decide := true) only [go_sem, reduceIte, reduceCtorEq, Nat.reduceEqDiff, Nat.reduceAdd, Nat.reduceMul, Nat.reduceSub, Nat.reduceLeDiff, Nat.reduceBEq, hg, hwp, hx1, hy1, Row.enc]; rfl); all_goals (intro hcnd; first | (exact absurd hcnd (by decide)) | skip)) | ((first | refine guardC_f ?_ ?_ | refine guardC_t ?_ ?_) <;> (intro hcnd; simp (decide := true) only [go_sem, reduceIte, reduceCtorEq, Nat.reduceEqDiff, Nat.reduceAdd, Nat.reduceMul, Nat.reduceSub, Nat.reduceLeDiff, Nat.reduceBEq, hcnd, hg, hwp, hx1, hy1, Row.enc]))))
          · have : rowAtC l k = some 10 := by simp only [rowAtC, hx1, hy1, hcnd, hk0, decide_true, Bool.and_self, if_true]
            simp [checkR, fs_some hi hk this]
          · exact ⟨by simp only [rowAtC, hx1, hy1, hcnd, Bool.and_false, Bool.false_eq_true, if_false], sub_ml rfl (by simp (decide := true) only [go_sem, reduceIte, reduceCtorEq, Nat.reduceEqDiff, Nat.reduceAdd, Nat.reduceMul, Nat.reduceSub, Nat.reduceLeDiff, Nat.reduceBEq]) (by simp (decide := true) only [go_sem, reduceIte, reduceCtorEq, Nat.reduceEqDiff, Nat.reduceAdd, Nat.reduceMul, Nat.reduceSub, Nat.reduceLeDiff, Nat.reduceBEq, Row.enc])⟩
      · intro hrow
        (repeat (first | (refine dw_seq ?_) | (refine dw_block ?_) | ((first | (refine dw_reg (N := 67) rfl (by kernel_rfl) ?_) | (apply dw_drw (id := 4) (N := 67) [(0, .light), (1, .light), (2, .light), (3, .light), (4, .light), (5, .light), (6, .light), (7, .light), (8, .light), (9, .light), (10, .light), (11, .light), (12, .light)]; kernel_rfl; rfl; kernel_rfl; (repeat (first | exact Picks.nil | (apply Picks.cons; rfl)))) | (apply dw_drw (id := 13) (N := 67) [(0, .light), (1, .light), (2, .light), (3, .light), (4, .light), (5, .light), (6, .light), (7, .light), (8, .light), (9, .light), (10, .step), (11, .light), (12, .light)]; kernel_rfl; rfl; kernel_rfl; (repeat (first | exact Picks.nil | (apply Picks.cons; rfl)))) | (refine dw_skip ?_) | (refine dw_exit ?_)); simp (decide := true) only [go_sem, reduceIte, reduceCtorEq, Nat.reduceEqDiff, Nat.reduceAdd, Nat.reduceMul, Nat.reduceSub, Nat.reduceLeDiff, Nat.reduceBEq, Row.enc])))
        apply dw_cond; (simp (decide := true) only [go_sem, reduceIte, reduceCtorEq, Nat.reduceEqDiff, Nat.reduceAdd, Nat.reduceMul, Nat.reduceSub, Nat.reduceLeDiff, Nat.reduceBEq]; rfl)
        · intro h3
          (repeat (first | (refine dw_seq ?_) | (refine dw_block ?_) | ((first | (refine dw_reg (N := 67) rfl (by kernel_rfl) ?_) | (apply dw_drw (id := 4) (N := 67) [(0, .light), (1, .light), (2, .light), (3, .light), (4, .light), (5, .light), (6, .light), (7, .light), (8, .light), (9, .light), (10, .light), (11, .light), (12, .light)]; kernel_rfl; rfl; kernel_rfl; (repeat (first | exact Picks.nil | (apply Picks.cons; rfl)))) | (apply dw_drw (id := 13) (N := 67) [(0, .light), (1, .light), (2, .light), (3, .light), (4, .light), (5, .light), (6, .light), (7, .light), (8, .light), (9, .light), (10, .step), (11, .light), (12, .light)]; kernel_rfl; rfl; kernel_rfl; (repeat (first | exact Picks.nil | (apply Picks.cons; rfl)))) | (refine dw_skip ?_) | (refine dw_exit ?_)); simp (decide := true) only [go_sem, reduceIte, reduceCtorEq, Nat.reduceEqDiff, Nat.reduceAdd, Nat.reduceMul, Nat.reduceSub, Nat.reduceLeDiff, Nat.reduceBEq])))
          refine dw_ret ?_; simp (decide := true) only [go_sem, reduceIte, reduceCtorEq, Nat.reduceEqDiff, Nat.reduceAdd, Nat.reduceMul, Nat.reduceSub, Nat.reduceLeDiff, Nat.reduceBEq]
          have h4 : x.senses = [] := by
            cases h5 : x.senses with
            | nil => rfl
            | cons => simp [h5] at h3; omega
          have : rowAtC l k = some 4 := by rw [hrow, if_pos h4]
          simp [checkR, fs_some hi hk this]
        intro h3
        have h4 : ¬ x.senses = [] := fun e => by simp [e] at h3
        rw [if_neg h4] at hrow
        (repeat (first | (refine dw_seq ?_) | (refine dw_block ?_) | ((first | (refine dw_reg (N := 67) rfl (by kernel_rfl) ?_) | (apply dw_drw (id := 4) (N := 67) [(0, .light), (1, .light), (2, .light), (3, .light), (4, .light), (5, .light), (6, .light), (7, .light), (8, .light), (9, .light), (10, .light), (11, .light), (12, .light)]; kernel_rfl; rfl; kernel_rfl; (repeat (first | exact Picks.nil | (apply Picks.cons; rfl)))) | (apply dw_drw (id := 13) (N := 67) [(0, .light), (1, .light), (2, .light), (3, .light), (4, .light), (5, .light), (6, .light), (7, .light), (8, .light), (9, .light), (10, .step), (11, .light), (12, .light)]; kernel_rfl; rfl; kernel_rfl; (repeat (first | exact Picks.nil | (apply Picks.cons; rfl)))) | (refine dw_skip ?_) | (refine dw_exit ?_)); simp (decide := true) only [go_sem, reduceIte, reduceCtorEq, Nat.reduceEqDiff, Nat.reduceAdd, Nat.reduceMul, Nat.reduceSub, Nat.reduceLeDiff, Nat.reduceBEq, Row.enc])))
        refine dw_rng x.senses (fun j (_ : Unit) => kn 67 [(0, dv (.sl 2 (l.map Row.enc))), (4, .one (.bx 4 2 0 0)), (7, dv (.sl 2 (l.map Row.enc))), (8, dv (li l.length)), (9, dv (li k)), (32, dv (.sl 3 (x.senses.map Part.enc))), (33, dv (li x.senses.length)), (34, dv (li j))] (ml [(4, [x.enc.map T.c])]))
          (fun j _ => ∀ i < j, partAt x.senses i = none) () (by omega) (sub_ml rfl (by simp (decide := true) only [go_sem, reduceIte, reduceCtorEq, Nat.reduceEqDiff, Nat.reduceAdd, Nat.reduceMul, Nat.reduceSub, Nat.reduceLeDiff, Nat.reduceBEq]) (by simp (decide := true) only [go_sem, reduceIte, reduceCtorEq, Nat.reduceEqDiff, Nat.reduceAdd, Nat.reduceMul, Nat.reduceSub, Nat.reduceLeDiff, Nat.reduceBEq, Row.enc])) (fun j hj => by omega) ?_ ?_
        · intro j y _ hy1 hj hjm hjt hd2 hw2 hi2
          have err : ∀ c, partAt x.senses j = some c → checkR l = c := fun c h => by
            have := fs_some hi hk (hrow.trans (fs_some hi2 hj h))
            simp [checkR, this]
          have bad : (y.entry < 1 ∨ y.alt ≠ 0 ∨ y.sense < 0) → checkR l = 1 := fun h => err 1 (by simp only [partAt, hy1, if_pos h])
          rcases Nat.eq_zero_or_pos j with hj0 | hj0
          · have hg : decide ((0 : Int) < (j : Int)) = false := by simp; omega
            (repeat' (first | (refine dw_seq ?_) | (refine dw_block ?_) | ((first | (refine dw_reg (N := 67) rfl (by kernel_rfl) ?_) | (apply dw_drw (id := 4) (N := 67) [(0, .light), (1, .light), (2, .light), (3, .light), (4, .light), (5, .light), (6, .light), (7, .light), (8, .light), (9, .light), (10, .light), (11, .light), (12, .light)]; kernel_rfl; rfl; kernel_rfl; (repeat (first | exact Picks.nil | (apply Picks.cons; rfl)))) | (apply dw_drw (id := 13) (N := 67) [(0, .light), (1, .light), (2, .light), (3, .light), (4, .light), (5, .light), (6, .light), (7, .light), (8, .light), (9, .light), (10, .step), (11, .light), (12, .light)]; kernel_rfl; rfl; kernel_rfl; (repeat (first | exact Picks.nil | (apply Picks.cons; rfl)))) | (refine dw_skip ?_) | (refine dw_exit ?_) | (refine dw_ret ?_)); simp (decide := true) only [go_sem, reduceIte, reduceCtorEq, Nat.reduceEqDiff, Nat.reduceAdd, Nat.reduceMul, Nat.reduceSub, Nat.reduceLeDiff, Nat.reduceBEq, hd2, hy1, Row.enc, Part.enc, hg, hw2]) | (apply dw_cond; (simp (decide := true) only [go_sem, reduceIte, reduceCtorEq, Nat.reduceEqDiff, Nat.reduceAdd, Nat.reduceMul, Nat.reduceSub, Nat.reduceLeDiff, Nat.reduceBEq, hd2, hy1, Row.enc, Part.enc, hg, hw2]; rfl); all_goals (intro hcnd; first | (exact absurd hcnd (by decide)) | skip)) | ((first | refine guardC_f ?_ ?_ | refine guardC_t ?_ ?_) <;> (intro hcnd; simp (decide := true) only [go_sem, reduceIte, reduceCtorEq, Nat.reduceEqDiff, Nat.reduceAdd, Nat.reduceMul, Nat.reduceSub, Nat.reduceLeDiff, Nat.reduceBEq, hcnd, hd2, hy1, Row.enc, Part.enc, hg, hw2]))))
            · rw [bad (.inl (of_decide_eq_true ‹_›))]
            · rw [bad (.inr (.inl (by simpa using ‹(y.alt != 0) = true›)))]
            · rw [bad (.inr (.inr (of_decide_eq_true ‹_›)))]
            · have good : ¬ (y.entry < 1 ∨ y.alt ≠ 0 ∨ y.sense < 0) := by simp at *; omega
              exact ⟨(), below_succ hi2 (by simp only [partAt, hy1, if_neg good, if_pos hj0]), sub_ml rfl (by simp (decide := true) only [go_sem, reduceIte, reduceCtorEq, Nat.reduceEqDiff, Nat.reduceAdd, Nat.reduceMul, Nat.reduceSub, Nat.reduceLeDiff, Nat.reduceBEq]) (by simp (decide := true) only [go_sem, reduceIte, reduceCtorEq, Nat.reduceEqDiff, Nat.reduceAdd, Nat.reduceMul, Nat.reduceSub, Nat.reduceLeDiff, Nat.reduceBEq, Row.enc])⟩
          · have hg : decide ((0 : Int) < (j : Int)) = true := by simpa using hj0
            obtain ⟨z, hz1⟩ : ∃ z, x.senses[j - 1]? = some z := ⟨x.senses[j - 1]'(by omega), List.getElem?_eq_getElem (by omega)⟩
            have hwp := wrap_pred j hj0 (by omega)
            (repeat' (first | (refine dw_seq ?_) | (refine dw_block ?_) | ((first | (refine dw_reg (N := 67) rfl (by kernel_rfl) ?_) | (apply dw_drw (id := 4) (N := 67) [(0, .light), (1, .light), (2, .light), (3, .light), (4, .light), (5, .light), (6, .light), (7, .light), (8, .light), (9, .light), (10, .light), (11, .light), (12, .light)]; kernel_rfl; rfl; kernel_rfl; (repeat (first | exact Picks.nil | (apply Picks.cons; rfl)))) | (apply dw_drw (id := 13) (N := 67) [(0, .light), (1, .light), (2, .light), (3, .light), (4, .light), (5, .light), (6, .light), (7, .light), (8, .light), (9, .light), (10, .step), (11, .light), (12, .light)]; kernel_rfl; rfl; kernel_rfl; (repeat (first | exact Picks.nil | (apply Picks.cons; rfl)))) | (refine dw_skip ?_) | (refine dw_exit ?_) | (refine CallC.mk (byPart_D y z) (LeL.of_eq rfl) ?_) | (refine CallC.light (byPart_D y z) (LeL.of_eq rfl) ?_) | (refine dw_ret ?_)); simp (decide := true) only [go_sem, reduceIte, reduceCtorEq, Nat.reduceEqDiff, Nat.reduceAdd, Nat.reduceMul, Nat.reduceSub, Nat.reduceLeDiff, Nat.reduceBEq, hd2, hy1, Row.enc, Part.enc, hg, hwp, hz1, hw2]) | (apply dw_cond; (simp (decide := true) only [go_sem, reduceIte, reduceCtorEq, Nat.reduceEqDiff, Nat.reduceAdd, Nat.reduceMul, Nat.reduceSub, Nat.reduceLeDiff, Nat.reduceBEq, hd2, hy1, Row.enc, Part.enc, hg, hwp, hz1, hw2]; rfl); all_goals (intro hcnd; first | (exact absurd hcnd (by decide)) | skip)) | ((first | refine guardC_f ?_ ?_ | refine guardC_t ?_ ?_) <;> (intro hcnd; simp (decide := true) only [go_sem, reduceIte, reduceCtorEq, Nat.reduceEqDiff, Nat.reduceAdd, Nat.reduceMul, Nat.reduceSub, Nat.reduceLeDiff, Nat.reduceBEq, hcnd, hd2, hy1, Row.enc, Part.enc, hg, hwp, hz1, hw2]))))
            · rw [bad (.inl (of_decide_eq_true ‹_›))]
            · rw [bad (.inr (.inl (by simpa using ‹(y.alt != 0) = true›)))]
            · rw [bad (.inr (.inr (of_decide_eq_true ‹_›)))]
            all_goals
              have good : ¬ (y.entry < 1 ∨ y.alt ≠ 0 ∨ y.sense < 0) := by
                have c1 : decide (y.entry < 1) = false := ‹_›
                have c2 : (y.alt != 0) = false := ‹_›
                have c3 : decide (y.sense < 0) = false := ‹_›
                simp at c1 c2 c3; omega
              have hya : y.alt = 0 := by omega
              have hza : z.alt = 0 := partAt_alt hz1 (hi2 (j - 1) (by omega))
              rw [cmpP_le hya hza] at hcnd
              have hjn : ¬ j = 0 := by omega
            · have h9 : z.lt y = false := by simpa using hcnd
              rw [err 10 (by simp only [partAt, hy1, hz1, if_neg good, if_neg hjn, h9, Bool.false_eq_true, if_false])]
            · have h9 : z.lt y = true := by simpa using hcnd
              exact ⟨(), below_succ hi2 (by simp only [partAt, hy1, hz1, if_neg good, if_neg hjn, h9, if_true]), sub_ml rfl (by simp (decide := true) only [go_sem, reduceIte, reduceCtorEq, Nat.reduceEqDiff, Nat.reduceAdd, Nat.reduceMul, Nat.reduceSub, Nat.reduceLeDiff, Nat.reduceBEq]) (by simp (decide := true) only [go_sem, reduceIte, reduceCtorEq, Nat.reduceEqDiff, Nat.reduceAdd, Nat.reduceMul, Nat.reduceSub, Nat.reduceLeDiff, Nat.reduceBEq, Row.enc])⟩
        · intro _ hd2 hi2
          (repeat' (first | (refine dw_seq ?_) | (refine dw_block ?_) | ((first | (refine dw_reg (N := 67) rfl (by kernel_rfl) ?_) | (apply dw_drw (id := 4) (N := 67) [(0, .light), (1, .light), (2, .light), (3, .light), (4, .light), (5, .light), (6, .light), (7, .light), (8, .light), (9, .light), (10, .light), (11, .light), (12, .light)]; kernel_rfl; rfl; kernel_rfl; (repeat (first | exact Picks.nil | (apply Picks.cons; rfl)))) | (apply dw_drw (id := 13) (N := 67) [(0, .light), (1, .light), (2, .light), (3, .light), (4, .light), (5, .light), (6, .light), (7, .light), (8, .light), (9, .light), (10, .step), (11, .light), (12, .light)]; kernel_rfl; rfl; kernel_rfl; (repeat (first | exact Picks.nil | (apply Picks.cons; rfl)))) | (refine dw_skip ?_) | (refine dw_exit ?_)); simp (decide := true) only [go_sem, reduceIte, reduceCtorEq, Nat.reduceEqDiff, Nat.reduceAdd, Nat.reduceMul, Nat.reduceSub, Nat.reduceLeDiff, Nat.reduceBEq, hd2, hw]) | (apply dw_cond; (simp (decide := true) only [go_sem, reduceIte, reduceCtorEq, Nat.reduceEqDiff, Nat.reduceAdd, Nat.reduceMul, Nat.reduceSub, Nat.reduceLeDiff, Nat.reduceBEq, hd2, hw]; rfl); all_goals (intro hcnd; first | (exact absurd hcnd (by decide)) | skip)) | ((first | refine guardC_f ?_ ?_ | refine guardC_t ?_ ?_) <;> (intro hcnd; simp (decide := true) only [go_sem, reduceIte, reduceCtorEq, Nat.reduceEqDiff, Nat.reduceAdd, Nat.reduceMul, Nat.reduceSub, Nat.reduceLeDiff, Nat.reduceBEq, hcnd, hd2, hw]))))
          exact ⟨(), below_succ hi (hrow.trans (fs_none hi2)), sub_kn rfl (by simp (decide := true) only [go_sem, reduceIte, reduceCtorEq, Nat.reduceEqDiff, Nat.reduceAdd, Nat.reduceMul, Nat.reduceSub, Nat.reduceLeDiff, Nat.reduceBEq]) (by simp [noMem])⟩
    · simp
  · intro _ hd hi
    (repeat' (first | (refine dw_seq ?_) | (refine dw_block ?_) | ((first | (refine dw_reg (N := 67) rfl (by kernel_rfl) ?_) | (apply dw_drw (id := 4) (N := 67) [(0, .light), (1, .light), (2, .light), (3, .light), (4, .light), (5, .light), (6, .light), (7, .light), (8, .light), (9, .light), (10, .light), (11, .light), (12, .light)]; kernel_rfl; rfl; kernel_rfl; (repeat (first | exact Picks.nil | (apply Picks.cons; rfl)))) | (apply dw_drw (id := 13) (N := 67) [(0, .light), (1, .light), (2, .light), (3, .light), (4, .light), (5, .light), (6, .light), (7, .light), (8, .light), (9, .light), (10, .step), (11, .light), (12, .light)]; kernel_rfl; rfl; kernel_rfl; (repeat (first | exact Picks.nil | (apply Picks.cons; rfl)))) | (refine dw_skip ?_) | (refine dw_exit ?_) | (refine dw_ret ?_)); simp (decide := true) only [go_sem, reduceIte, reduceCtorEq, Nat.reduceEqDiff, Nat.reduceAdd, Nat.reduceMul, Nat.reduceSub, Nat.reduceLeDiff, Nat.reduceBEq, hd]) | (apply dw_cond; (simp (decide := true) only [go_sem, reduceIte, reduceCtorEq, Nat.reduceEqDiff, Nat.reduceAdd, Nat.reduceMul, Nat.reduceSub, Nat.reduceLeDiff, Nat.reduceBEq, hd]; rfl); all_goals (intro hcnd; first | (exact absurd hcnd (by decide)) | skip)) | ((first | refine guardC_f ?_ ?_ | refine guardC_t ?_ ?_) <;> (intro hcnd; simp (decide := true) only [go_sem, reduceIte, reduceCtorEq, Nat.reduceEqDiff, Nat.reduceAdd, Nat.reduceMul, Nat.reduceSub, Nat.reduceLeDiff, Nat.reduceBEq, hcnd, hd]))))
    simp [checkR, fs_none hi]
end Go.Proofs.Ytffcabenoakmgaa

/- Plain laws of sorted rows: what Check accepts; how many parts there are. -/
namespace Go.Proofs.Ytffcabenoakmgaa
open Go.Dl

theorem fs_none_iff {α : Type} {n : Nat} {f : Nat → Option α} : fs n f = none ↔ ∀ j < n, f j = none := by
  unfold fs
  rw [List.findSome?_eq_none_iff]
  simp

theorem fs_some_of {α : Type} {n : Nat} {f : Nat → Option α} {c : α} (h : fs n f = some c) : ∃ j < n, f j = some c := by
  unfold fs at h
  obtain ⟨j, hj, h⟩ := List.exists_of_findSome?_eq_some h
  exact ⟨j, by simpa using hj, h⟩

theorem partAt_ne {ps : List Part} {k : Nat} {c : Int} (h : partAt ps k = some c) : c ≠ 0 := by
  unfold partAt at h
  split at h
  · cases h
  · split at h
    · injection h with h; omega
    · split at h
      · cases h
      · split at h
        · cases h
        · split at h
          · cases h
          · injection h with h; omega

def badR (l : List Row) (k : Nat) (r : Row) : Bool := decide (0 < k) && (match l[k - 1]? with | some q => (strLt r.gloss q.gloss || (r.gloss == q.gloss)) | none => false)
theorem rowAtC_at {l : List Row} {k : Nat} {r : Row} (hr : l[k]? = some r) : rowAtC l k = if badR l k r = true then some 10 else if r.senses = [] then some 4 else fs r.senses.length (partAt r.senses) := by
  simp only [rowAtC, hr]; rfl

theorem rowAtC_ne {l : List Row} {k : Nat} {c : Int} (h : rowAtC l k = some c) : c ≠ 0 := by
  cases hr : l[k]? with
  | none => simp [rowAtC, hr] at h
  | some r =>
    rw [rowAtC_at hr] at h
    cases hb : badR l k r with
    | true => rw [hb, if_pos rfl] at h; injection h with h; omega
    | false =>
      rw [hb, if_neg (by simp)] at h
      by_cases hn : r.senses = []
      · rw [if_pos hn] at h; injection h with h; omega
      · rw [if_neg hn] at h
        obtain ⟨j, _, h⟩ := fs_some_of h
        exact partAt_ne h

theorem check_zero (l : List Row) : checkR l = 0 ↔ ∀ j < l.length, rowAtC l j = none := by
  unfold checkR
  cases h : fs l.length (rowAtC l) with
  | none => simp only [Option.getD_none, true_iff]; exact fs_none_iff.1 h
  | some c =>
    obtain ⟨j, hj, hc⟩ := fs_some_of h
    have := rowAtC_ne hc
    simp only [Option.getD_some, this, false_iff]
    intro h2
    rw [h2 j hj] at hc; cases hc

theorem pw_of_adj {α : Type} {R : α → α → Prop} (tr : ∀ a b c, R a b → R b c → R a c) : ∀ {l : List α}, (∀ (i : Nat) a b, l[i]? = some a → l[i + 1]? = some b → R a b) → l.Pairwise R
  | [], _ => .nil
  | [a], _ => by simp
  | a :: b :: l, h => by
    have ih : (b :: l).Pairwise R := pw_of_adj tr fun i x y hx hy => h (i + 1) x y (by simpa using hx) (by simpa using hy)
    have hab := h 0 a b rfl rfl
    refine List.pairwise_cons.2 ⟨fun x hx => ?_, ih⟩
    rcases List.mem_cons.1 hx with rfl | hx
    · exact hab
    · exact tr _ _ _ hab ((List.pairwise_cons.1 ih).1 x hx)

theorem parts_none {ps : List Part} : (∀ j < ps.length, partAt ps j = none) ↔ PSorted ps ∧ ∀ p ∈ ps, 1 ≤ p.entry ∧ 0 ≤ p.sense := by
  constructor
  · intro h
    have each : ∀ p ∈ ps, 1 ≤ p.entry ∧ p.alt = 0 ∧ 0 ≤ p.sense := fun p hp => by
      obtain ⟨j, hj⟩ := List.getElem?_of_mem hp
      have := h j (List.getElem?_eq_some_iff.1 hj).1
      unfold partAt at this
      rw [hj] at this
      simp only at this
      split at this
      · cases this
      · rename_i hg; omega
    refine ⟨⟨fun p hp => (each p hp).2.1, pw_of_adj (R := fun a b : Part => a.lt b = true) (fun a b c h1 h2 => Part.lt_trans h1 h2) fun i a b ha hb => ?_⟩, fun p hp => ⟨(each p hp).1, (each p hp).2.2⟩⟩
    have := h (i + 1) (List.getElem?_eq_some_iff.1 hb).1
    have e := each b (List.mem_of_getElem? hb)
    have hg : ¬ (b.entry < 1 ∨ b.alt ≠ 0 ∨ b.sense < 0) := by omega
    simp only [partAt, hb, if_neg hg, Nat.add_sub_cancel, ha] at this
    rw [if_neg (by omega)] at this
    cases hc : a.lt b with
    | true => rfl
    | false => rw [hc] at this; simp at this
  · rintro ⟨h, h2⟩ j hj
    obtain ⟨p, hp⟩ : ∃ p, ps[j]? = some p := ⟨ps[j], List.getElem?_eq_getElem hj⟩
    have hm := List.mem_of_getElem? hp
    have e := h2 p hm
    have hg : ¬ (p.entry < 1 ∨ p.alt ≠ 0 ∨ p.sense < 0) := by have := h.alt p hm; omega
    simp only [partAt, hp, if_neg hg]
    by_cases h0 : j = 0
    · rw [if_pos h0]
    · rw [if_neg h0]
      obtain ⟨q, hq⟩ : ∃ q, ps[j - 1]? = some q := ⟨ps[j - 1]'(by omega), List.getElem?_eq_getElem (by omega)⟩
      have := pw_get h.pw (show j - 1 < j by omega) hq hp
      simp only [hq, this, if_true]

def Nums (l : List Row) : Prop := ∀ r ∈ l, ∀ p ∈ r.senses, 1 ≤ p.entry ∧ 0 ≤ p.sense

theorem check_iff (l : List Row) : checkR l = 0 ↔ RGood l ∧ Nums l := by
  rw [check_zero]
  constructor
  · intro h
    have each : ∀ r ∈ l, r.senses ≠ [] ∧ PSorted r.senses ∧ ∀ p ∈ r.senses, 1 ≤ p.entry ∧ 0 ≤ p.sense := fun r hr => by
      obtain ⟨j, hj⟩ := List.getElem?_of_mem hr
      have := h j (List.getElem?_eq_some_iff.1 hj).1
      rw [rowAtC_at hj] at this
      cases hb : badR l j r with
      | true => rw [hb, if_pos rfl] at this; cases this
      | false =>
        rw [hb, if_neg (by simp)] at this
        by_cases hn : r.senses = []
        · rw [if_pos hn] at this; cases this
        · rw [if_neg hn] at this
          exact ⟨hn, parts_none.1 (fs_none_iff.1 this)⟩
    refine ⟨⟨pw_of_adj (R := fun a b : Row => strLt a.gloss b.gloss = true) (fun a b c h1 h2 => strLt_trans h1 h2) fun i a b ha hb => ?_, fun r hr => (each r hr).2.1, fun r hr => (each r hr).1⟩, fun r hr => (each r hr).2.2⟩
    have := h (i + 1) (List.getElem?_eq_some_iff.1 hb).1
    rw [rowAtC_at hb] at this
    have hbad : badR l (i + 1) b = (strLt b.gloss a.gloss || (b.gloss == a.gloss)) := by simp [badR, ha]
    rw [hbad] at this
    cases hc : (strLt b.gloss a.gloss || (b.gloss == a.gloss)) with
    | true => rw [hc] at this; simp at this
    | false =>
      simp only [Bool.or_eq_false_iff] at hc
      cases hd : strLt a.gloss b.gloss with
      | true => rfl
      | false =>
        have e := strLt_tri hc.1 hd
        rw [beq_bytes] at hc
        simp [e] at hc
  · rintro ⟨h, h2⟩ j hj
    obtain ⟨r, hr⟩ : ∃ r, l[j]? = some r := ⟨l[j], List.getElem?_eq_getElem hj⟩
    have hm := List.mem_of_getElem? hr
    have hp := fs_none_iff.2 (parts_none.2 ⟨h.each r hm, h2 r hm⟩)
    have hz : badR l j r = false := by
      unfold badR
      by_cases h0 : 0 < j
      · obtain ⟨q, hq⟩ : ∃ q, l[j - 1]? = some q := ⟨l[j - 1]'(by omega), List.getElem?_eq_getElem (by omega)⟩
        have hlt := pw_get h.pw (show j - 1 < j by omega) hq hr
        have hne : (r.gloss == q.gloss) = false := by
          rw [beq_bytes]
          simp only [decide_eq_false_iff_not]
          intro e; rw [e, strLt_irrefl] at hlt; cases hlt
        simp only [hq, strLt_asymm hlt, hne, Bool.or_self, Bool.and_false]
      · simp [h0]
    rw [rowAtC_at hr, hz, if_neg (by simp), if_neg (h.ne r hm), hp]

/-! ### How many -/

def total (l : List Row) : Nat := (l.map fun r => r.senses.length).sum

theorem total_app (a b : List Row) : total (a ++ b) = total a + total b := by simp [total]
theorem total_cons (r : Row) (b : List Row) : total (r :: b) = r.senses.length + total b := by simp [total]

theorem ins_new {ps : List Part} {p : Part} (h : p ∉ ps) : (ins ps p).length = ps.length + 1 := by
  have hl : lows ps p ≤ ps.length := (List.takeWhile_prefix _).length_le
  unfold ins
  have : ¬ ps[lows ps p]? = some p := fun e => h (List.mem_of_getElem? e)
  rw [if_neg this]
  simp; omega

theorem total_put {l : List Row} (h : RGood l) {g : ByteArray} {p : Part} (hn : ¬ Has l g p) : total (putR l g p) = total l + 1 := by
  have hp : p ∉ (atR l g).senses := fun e => hn ((atR_row h g p).1 e)
  have hins := ins_new hp
  have hlow : lowR l g ≤ l.length := (List.takeWhile_prefix _).length_le
  unfold putR
  rw [total_app, total_cons]
  simp only [hins]
  have key : total (l.drop (lowR l g)) = (atR l g).senses.length + total (l.drop (skipR l g)) := by
    unfold atR skipR
    cases hx : l[lowR l g]? with
    | none => simp
    | some r =>
      simp only
      split
      · obtain ⟨h1, h2⟩ := List.getElem?_eq_some_iff.1 hx
        rw [List.drop_eq_getElem_cons h1, h2, total_cons]
      · simp
  have hsplit : total l = total (l.take (lowR l g)) + total (l.drop (lowR l g)) := by rw [← total_app, List.take_append_drop]
  omega

theorem total_puts {l : List Row} (h : RGood l) {id : Int} {ss : List Sense} (hn : ∀ g k, ¬ Has l g (pt id k)) : ∀ n, n ≤ ss.length → total (putsN l id ss n) = total l + n
  | 0, _ => rfl
  | n + 1, hl => by
    obtain ⟨s0, hs⟩ : ∃ s0, ss[n]? = some s0 := ⟨_, List.getElem?_eq_getElem (l := ss) (i := n) (by omega)⟩
    have ih := total_puts h (ss := ss) hn n (by omega)
    simp only [putsN, hs]
    rw [total_put (puts_good h id ss n), ih]
    · omega
    · rw [has_puts h]
      rintro (h1 | ⟨k, s, hk, _, _, e⟩)
      · exact hn _ _ h1
      · have := congrArg Part.sense e
        simp at this; omega

def Distinct (l : List Entry) : Prop := l.Pairwise fun a b => a.id < b.id

theorem Of_entry {id : Int} {ss : List Sense} {n : Nat} {g : ByteArray} {p : Part} (h : Of id ss n g p) : p.entry = id := by
  obtain ⟨k, s, _, _, _, rfl⟩ := h; rfl

theorem total_build {l : List Entry} (h : Distinct l) : ∀ n, n ≤ l.length → total (buildN l n) = ((l.take n).map fun e => e.senses.length).sum
  | 0, _ => by simp [buildN, total]
  | n + 1, hl => by
    have he : l[n]? = some l[n] := List.getElem?_eq_getElem (by omega)
    rw [Go.Dl.take_snoc he]
    simp only [buildN, he]
    rw [total_puts (build_good l n) _ _ (Nat.le_refl _), total_build h n (by omega)]
    · simp only [List.map_append, List.map_cons, List.map_nil, List.sum_append, List.sum_cons, List.sum_nil, Nat.add_zero]
    · intro g k hh
      rw [has_build] at hh
      obtain ⟨e, hem, ho⟩ := hh
      obtain ⟨i, hi⟩ := List.getElem?_of_mem hem
      rw [List.getElem?_take] at hi
      split at hi
      · rename_i hin
        have h1 := pw_get h hin hi he
        have h2 := Of_entry ho
        simp only at h1 h2
        omega
      · cases hi

theorem fit_ids {l : List Entry} (h : fitB l = true) : Distinct l := by
  have h0 : ∀ j < l.length, fitAt l j = none := by
    unfold fitB at h
    exact fs_none_iff.1 (by simpa using h)
  refine pw_of_adj (R := fun a b : Entry => a.id < b.id) (fun a b c h1 h2 => by omega) fun i a b ha hb => ?_
  have := h0 (i + 1) (List.getElem?_eq_some_iff.1 hb).1
  simp only [fitAt, hb, Nat.add_sub_cancel, ha] at this
  split at this
  · cases this
  · rw [if_neg (by omega)] at this
    split at this
    · cases this
    · omega
end Go.Proofs.Ytffcabenoakmgaa

/- Contracts of the laws' helpers: Few, few, short, fit, Get. -/
namespace Go.Proofs.Ytffcabenoakmgaa
open Go.Dl
attribute [local irreducible] DW DCalls ECalls wk

def fewE (e : Entry) : Bool :=
  (decide (e.form.length ≤ 40) && decide (e.alts.length ≤ 6) && decide (e.senses.length ≤ 10) && decide (e.links.length ≤ 20) && decide (e.refs.length ≤ 20)) &&
    (e.alts.all (fun a => decide (a.length ≤ 40)) && e.senses.all fun s => decide (s.gloss.size ≤ 100) && decide (s.dfn.size ≤ 400))

def fewB (l : List Entry) : Bool := decide (l.length ≤ 110) && l.all fewE

theorem gt_true {n : Nat} {c : Nat} (h : decide ((c : Int) < (n : Int)) = true) : decide (n ≤ c) = false := by simp at h ⊢; omega
theorem gt_false {n : Nat} {c : Nat} (h : decide ((c : Int) < (n : Int)) = false) : decide (n ≤ c) = true := by simp at h ⊢; omega

--F30
set_option maxRecDepth 10000 in
set_option maxHeartbeats 4000000 in
theorem few25_D (l : List Entry) (hl : l.length ≤ maxLen) : DCalls Try.prog 30 [dv (.sl 8 (l.map Entry.enc))] (dv (lb (fewB l))) := by
  refine dcalls (N := 87) (rs := [.tmp 2]) (by kernel_rfl) Try.func30 rfl rfl rfl (by simp) ?_
  (repeat (first | (refine dw_seq ?_) | (refine dw_block ?_) | ((first | (refine dw_reg (N := 87) rfl (by kernel_rfl) ?_) | (refine dw_skip ?_) | (refine dw_exit ?_)); simp (decide := true) only [go_sem, reduceIte, reduceCtorEq, Nat.reduceEqDiff, Nat.reduceAdd, Nat.reduceMul, Nat.reduceSub, Nat.reduceLeDiff, Nat.reduceBEq])))
  apply dw_cond; (simp (decide := true) only [go_sem, reduceIte, reduceCtorEq, Nat.reduceEqDiff, Nat.reduceAdd, Nat.reduceMul, Nat.reduceSub, Nat.reduceLeDiff, Nat.reduceBEq]; rfl)
  · intro hc
    (repeat (first | (refine dw_seq ?_) | (refine dw_block ?_) | ((first | (refine dw_reg (N := 87) rfl (by kernel_rfl) ?_) | (refine dw_skip ?_) | (refine dw_exit ?_)); simp (decide := true) only [go_sem, reduceIte, reduceCtorEq, Nat.reduceEqDiff, Nat.reduceAdd, Nat.reduceMul, Nat.reduceSub, Nat.reduceLeDiff, Nat.reduceBEq])))
    refine dw_ret ?_; simp (decide := true) only [go_sem, reduceIte, reduceCtorEq, Nat.reduceEqDiff, Nat.reduceAdd, Nat.reduceMul, Nat.reduceSub, Nat.reduceLeDiff, Nat.reduceBEq]
    have := gt_true (c := 110) hc
    simp [fewB, this]
  intro hc
  have hc' : l.length ≤ 110 := by simpa using gt_false (c := 110) hc
  (repeat (first | (refine dw_seq ?_) | (refine dw_block ?_) | ((first | (refine dw_reg (N := 87) rfl (by kernel_rfl) ?_) | (refine dw_skip ?_) | (refine dw_exit ?_)); simp (decide := true) only [go_sem, reduceIte, reduceCtorEq, Nat.reduceEqDiff, Nat.reduceAdd, Nat.reduceMul, Nat.reduceSub, Nat.reduceLeDiff, Nat.reduceBEq])))
  refine dw_rng l (fun k (_ : Unit) => kn 87 [(0, dv (.sl 8 (l.map Entry.enc))), (11, dv (li l.length)), (12, dv (li k))] noMem) (fun k _ => (l.take k).all fewE = true) () hl (sub_kn rfl (by simp (decide := true) only [go_sem, reduceIte, reduceCtorEq, Nat.reduceEqDiff, Nat.reduceAdd, Nat.reduceMul, Nat.reduceSub, Nat.reduceLeDiff, Nat.reduceBEq]) (by simp [noMem])) (by simp) ?_ ?_
  · intro k x _ hx1 hk hm ht hd hw hi
    have bad : fewE x = false → fewB l = false := fun h => by simp [fewB, all_false hm h]
    (repeat' (first | (refine dw_seq ?_) | (refine dw_block ?_) | ((first | (refine dw_reg (N := 87) rfl (by kernel_rfl) ?_) | (refine dw_skip ?_) | (refine dw_exit ?_) | (refine dw_ret ?_)); simp (decide := true) only [go_sem, reduceIte, reduceCtorEq, Nat.reduceEqDiff, Nat.reduceAdd, Nat.reduceMul, Nat.reduceSub, Nat.reduceLeDiff, Nat.reduceBEq, hd, hx1, Entry.enc]) | (apply dw_cond; (simp (decide := true) only [go_sem, reduceIte, reduceCtorEq, Nat.reduceEqDiff, Nat.reduceAdd, Nat.reduceMul, Nat.reduceSub, Nat.reduceLeDiff, Nat.reduceBEq, hd, hx1, Entry.enc]; rfl); all_goals (intro hcnd; first | (exact absurd hcnd (by decide)) | skip)) | ((first | refine guardC_f ?_ ?_ | refine guardC_t ?_ ?_) <;> (intro hcnd; simp (decide := true) only [go_sem, reduceIte, reduceCtorEq, Nat.reduceEqDiff, Nat.reduceAdd, Nat.reduceMul, Nat.reduceSub, Nat.reduceLeDiff, Nat.reduceBEq, hcnd, hd, hx1, Entry.enc]))))
    · rw [bad (by simp [fewE, gt_true (c := 40) ‹_›])]
    · rw [bad (by simp [fewE, gt_true (c := 6) ‹_›])]
    · rw [bad (by simp [fewE, gt_true (c := 10) ‹_›])]
    · rw [bad (by simp [fewE, gt_true (c := 20) ‹_›])]
    · rw [bad (by simp [fewE, gt_true (c := 20) ‹_›])]
    have c1 := gt_false (n := x.form.length) (c := 40) ‹_›
    have c2 := gt_false (n := x.alts.length) (c := 6) ‹_›
    have c3 := gt_false (n := x.senses.length) (c := 10) ‹_›
    have c4 := gt_false (n := x.links.length) (c := 20) ‹_›
    have c5 := gt_false (n := x.refs.length) (c := 20) ‹_›
    have hal : x.alts.length ≤ 6 := by simpa using c2
    have hsl : x.senses.length ≤ 10 := by simpa using c3
    refine dw_rng x.alts (fun j (_ : Unit) => kn 87 [(0, dv (.sl 8 (l.map Entry.enc))), (4, .one (.bx 4 8 0 0)), (11, dv (li l.length)), (12, dv (li k)), (49, dv (li x.alts.length)), (50, dv (li j))] (ml [(4, [x.enc.map T.c])])) (fun j _ => (x.alts.take j).all (fun a => decide (a.length ≤ 40)) = true) () (by simp [maxLen]; omega)
      (sub_ml rfl (by simp (decide := true) only [go_sem, reduceIte, reduceCtorEq, Nat.reduceEqDiff, Nat.reduceAdd, Nat.reduceMul, Nat.reduceSub, Nat.reduceLeDiff, Nat.reduceBEq]) (by simp (decide := true) only [go_sem, reduceIte, reduceCtorEq, Nat.reduceEqDiff, Nat.reduceAdd, Nat.reduceMul, Nat.reduceSub, Nat.reduceLeDiff, Nat.reduceBEq, Entry.enc])) (by simp) ?_ ?_
    · intro j a _ ha1 hj hjm hjt hjd hjw hji
      (repeat' (first | (refine dw_seq ?_) | (refine dw_block ?_) | ((first | (refine dw_reg (N := 87) rfl (by kernel_rfl) ?_) | (refine dw_skip ?_) | (refine dw_exit ?_) | (refine dw_ret ?_)); simp (decide := true) only [go_sem, reduceIte, reduceCtorEq, Nat.reduceEqDiff, Nat.reduceAdd, Nat.reduceMul, Nat.reduceSub, Nat.reduceLeDiff, Nat.reduceBEq, hjd, ha1, Entry.enc, hjw]) | (apply dw_cond; (simp (decide := true) only [go_sem, reduceIte, reduceCtorEq, Nat.reduceEqDiff, Nat.reduceAdd, Nat.reduceMul, Nat.reduceSub, Nat.reduceLeDiff, Nat.reduceBEq, hjd, ha1, Entry.enc, hjw]; rfl); all_goals (intro hcnd; first | (exact absurd hcnd (by decide)) | skip)) | ((first | refine guardC_f ?_ ?_ | refine guardC_t ?_ ?_) <;> (intro hcnd; simp (decide := true) only [go_sem, reduceIte, reduceCtorEq, Nat.reduceEqDiff, Nat.reduceAdd, Nat.reduceMul, Nat.reduceSub, Nat.reduceLeDiff, Nat.reduceBEq, hcnd, hjd, ha1, Entry.enc, hjw]))))
      · have := gt_true (n := a.length) (c := 40) ‹_›
        rw [bad (by simp only [fewE, all_false (p := fun a : List (List C) => decide (a.length ≤ 40)) hjm this, Bool.false_and, Bool.and_false])]
      · exact ⟨(), by rw [hjt, List.all_append, hji]; simpa using gt_false (n := a.length) (c := 40) ‹_›, sub_ml rfl (by simp (decide := true) only [go_sem, reduceIte, reduceCtorEq, Nat.reduceEqDiff, Nat.reduceAdd, Nat.reduceMul, Nat.reduceSub, Nat.reduceLeDiff, Nat.reduceBEq]) (by simp (decide := true) only [go_sem, reduceIte, reduceCtorEq, Nat.reduceEqDiff, Nat.reduceAdd, Nat.reduceMul, Nat.reduceSub, Nat.reduceLeDiff, Nat.reduceBEq, Entry.enc])⟩
    · intro _ hjd hja
      rw [List.take_length] at hja
      (repeat' (first | (refine dw_seq ?_) | (refine dw_block ?_) | ((first | (refine dw_reg (N := 87) rfl (by kernel_rfl) ?_) | (refine dw_skip ?_) | (refine dw_exit ?_)); simp (decide := true) only [go_sem, reduceIte, reduceCtorEq, Nat.reduceEqDiff, Nat.reduceAdd, Nat.reduceMul, Nat.reduceSub, Nat.reduceLeDiff, Nat.reduceBEq, hjd, Entry.enc]) | (apply dw_cond; (simp (decide := true) only [go_sem, reduceIte, reduceCtorEq, Nat.reduceEqDiff, Nat.reduceAdd, Nat.reduceMul, Nat.reduceSub, Nat.reduceLeDiff, Nat.reduceBEq, hjd, Entry.enc]; rfl); all_goals (intro hcnd; first | (exact absurd hcnd (by decide)) | skip)) | ((first | refine guardC_f ?_ ?_ | refine guardC_t ?_ ?_) <;> (intro hcnd; simp (decide := true) only [go_sem, reduceIte, reduceCtorEq, Nat.reduceEqDiff, Nat.reduceAdd, Nat.reduceMul, Nat.reduceSub, Nat.reduceLeDiff, Nat.reduceBEq, hcnd, hjd, Entry.enc]))))
      refine dw_rng x.senses (fun j (_ : Unit) => kn 87 [(0, dv (.sl 8 (l.map Entry.enc))), (4, .one (.bx 4 8 0 0)), (11, dv (li l.length)), (12, dv (li k)), (63, dv (li x.senses.length)), (64, dv (li j))] (ml [(4, [x.enc.map T.c])])) (fun j _ => (x.senses.take j).all (fun s => decide (s.gloss.size ≤ 100) && decide (s.dfn.size ≤ 400)) = true) () (by simp [maxLen]; omega)
        (sub_ml rfl (by simp (decide := true) only [go_sem, reduceIte, reduceCtorEq, Nat.reduceEqDiff, Nat.reduceAdd, Nat.reduceMul, Nat.reduceSub, Nat.reduceLeDiff, Nat.reduceBEq]) (by simp (decide := true) only [go_sem, reduceIte, reduceCtorEq, Nat.reduceEqDiff, Nat.reduceAdd, Nat.reduceMul, Nat.reduceSub, Nat.reduceLeDiff, Nat.reduceBEq, Entry.enc])) (by simp) ?_ ?_
      · intro j a _ ha1 hj hjm hjt hjd hjw hji
        (repeat' (first | (refine dw_seq ?_) | (refine dw_block ?_) | ((first | (refine dw_reg (N := 87) rfl (by kernel_rfl) ?_) | (refine dw_skip ?_) | (refine dw_exit ?_) | (refine dw_ret ?_)); simp (decide := true) only [go_sem, reduceIte, reduceCtorEq, Nat.reduceEqDiff, Nat.reduceAdd, Nat.reduceMul, Nat.reduceSub, Nat.reduceLeDiff, Nat.reduceBEq, hjd, ha1, Entry.enc, Sense.enc, hjw]) | (apply dw_cond; (simp (decide := true) only [go_sem, reduceIte, reduceCtorEq, Nat.reduceEqDiff, Nat.reduceAdd, Nat.reduceMul, Nat.reduceSub, Nat.reduceLeDiff, Nat.reduceBEq, hjd, ha1, Entry.enc, Sense.enc, hjw]; rfl); all_goals (intro hcnd; first | (exact absurd hcnd (by decide)) | skip)) | ((first | refine guardC_f ?_ ?_ | refine guardC_t ?_ ?_) <;> (intro hcnd; simp (decide := true) only [go_sem, reduceIte, reduceCtorEq, Nat.reduceEqDiff, Nat.reduceAdd, Nat.reduceMul, Nat.reduceSub, Nat.reduceLeDiff, Nat.reduceBEq, hcnd, hjd, ha1, Entry.enc, Sense.enc, hjw]))))
        · have := gt_true (n := a.gloss.size) (c := 100) ‹_›
          rw [bad (by simp only [fewE, all_false (p := fun s : Sense => decide (s.gloss.size ≤ 100) && decide (s.dfn.size ≤ 400)) hjm (by simp only [this, Bool.false_and]), Bool.and_false])]
        · have := gt_true (n := a.dfn.size) (c := 400) ‹_›
          rw [bad (by simp only [fewE, all_false (p := fun s : Sense => decide (s.gloss.size ≤ 100) && decide (s.dfn.size ≤ 400)) hjm (by simp only [this, Bool.and_false]), Bool.and_false])]
        · have d1 := gt_false (n := a.gloss.size) (c := 100) ‹_›
          have d2 := gt_false (n := a.dfn.size) (c := 400) ‹_›
          exact ⟨(), by rw [hjt, List.all_append, hji]; simp only [List.all_cons, d1, d2, List.all_nil, Bool.and_self], sub_ml rfl (by simp (decide := true) only [go_sem, reduceIte, reduceCtorEq, Nat.reduceEqDiff, Nat.reduceAdd, Nat.reduceMul, Nat.reduceSub, Nat.reduceLeDiff, Nat.reduceBEq]) (by simp (decide := true) only [go_sem, reduceIte, reduceCtorEq, Nat.reduceEqDiff, Nat.reduceAdd, Nat.reduceMul, Nat.reduceSub, Nat.reduceLeDiff, Nat.reduceBEq, Entry.enc])⟩
      · intro _ hjd hjs
        rw [List.take_length] at hjs
        (repeat' (first | (refine dw_seq ?_) | (refine dw_block ?_) | ((first | (refine dw_reg (N := 87) rfl (by kernel_rfl) ?_) | (refine dw_skip ?_) | (refine dw_exit ?_)); simp (decide := true) only [go_sem, reduceIte, reduceCtorEq, Nat.reduceEqDiff, Nat.reduceAdd, Nat.reduceMul, Nat.reduceSub, Nat.reduceLeDiff, Nat.reduceBEq, hjd, hw]) | (apply dw_cond; (simp (decide := true) only [go_sem, reduceIte, reduceCtorEq, Nat.reduceEqDiff, Nat.reduceAdd, Nat.reduceMul, Nat.reduceSub, Nat.reduceLeDiff, Nat.reduceBEq, hjd, hw]; rfl); all_goals (intro hcnd; first | (exact absurd hcnd (by decide)) | skip)) | ((first | refine guardC_f ?_ ?_ | refine guardC_t ?_ ?_) <;> (intro hcnd; simp (decide := true) only [go_sem, reduceIte, reduceCtorEq, Nat.reduceEqDiff, Nat.reduceAdd, Nat.reduceMul, Nat.reduceSub, Nat.reduceLeDiff, Nat.reduceBEq, hcnd, hjd, hw]))))
        refine ⟨(), ?_, sub_kn rfl (by simp (decide := true) only [go_sem, reduceIte, reduceCtorEq, Nat.reduceEqDiff, Nat.reduceAdd, Nat.reduceMul, Nat.reduceSub, Nat.reduceLeDiff, Nat.reduceBEq]) (by simp [noMem])⟩
        rw [ht, List.all_append, hi]
        simp only [List.all_cons, List.all_nil, fewE, c1, c2, c3, c4, c5, hja, hjs, Bool.and_self]
  · intro _ hd hi
    rw [List.take_length] at hi
    (repeat' (first | (refine dw_seq ?_) | (refine dw_block ?_) | ((first | (refine dw_reg (N := 87) rfl (by kernel_rfl) ?_) | (refine dw_skip ?_) | (refine dw_exit ?_) | (refine dw_ret ?_)); simp (decide := true) only [go_sem, reduceIte, reduceCtorEq, Nat.reduceEqDiff, Nat.reduceAdd, Nat.reduceMul, Nat.reduceSub, Nat.reduceLeDiff, Nat.reduceBEq, hd]) | (apply dw_cond; (simp (decide := true) only [go_sem, reduceIte, reduceCtorEq, Nat.reduceEqDiff, Nat.reduceAdd, Nat.reduceMul, Nat.reduceSub, Nat.reduceLeDiff, Nat.reduceBEq, hd]; rfl); all_goals (intro hcnd; first | (exact absurd hcnd (by decide)) | skip)) | ((first | refine guardC_f ?_ ?_ | refine guardC_t ?_ ?_) <;> (intro hcnd; simp (decide := true) only [go_sem, reduceIte, reduceCtorEq, Nat.reduceEqDiff, Nat.reduceAdd, Nat.reduceMul, Nat.reduceSub, Nat.reduceLeDiff, Nat.reduceBEq, hcnd, hd]))))
    simp [fewB, hi, hc']
end Go.Proofs.Ytffcabenoakmgaa

/- Contracts of the laws' helpers: few, short, fit, Get. -/
namespace Go.Proofs.Ytffcabenoakmgaa
open Go.Dl
attribute [local irreducible] DW DCalls ECalls wk

theorem le_dec (n c : Nat) : decide ((n : Int) ≤ (c : Int)) = decide (n ≤ c) := by simp

def few28 (l : List Entry) : Bool := decide (l.length ≤ 40) && fewB l

--F11
theorem few28_D (l : List Entry) (hl : l.length ≤ maxLen) : DCalls Try.prog 11 [dv (.sl 8 (l.map Entry.enc))] (dv (lb (few28 l))) := by
  refine dcalls (N := 10) (rs := [.tmp 2]) (by kernel_rfl) Try.func11 rfl rfl rfl (by simp) ?_
  (repeat' (first | (refine dw_seq ?_) | (refine dw_block ?_) | ((first | (refine dw_reg (N := 10) rfl (by kernel_rfl) ?_) | (refine dw_skip ?_) | (refine dw_exit ?_) | (refine CallC.mk (few25_D l hl) (LeL.of_eq rfl) ?_) | (refine CallC.light (few25_D l hl) (LeL.of_eq rfl) ?_) | (refine dw_ret ?_)); simp (decide := true) only [go_sem, reduceIte, reduceCtorEq, Nat.reduceEqDiff, Nat.reduceAdd, Nat.reduceMul, Nat.reduceSub, Nat.reduceLeDiff, Nat.reduceBEq]) | (apply dw_cond; (simp (decide := true) only [go_sem, reduceIte, reduceCtorEq, Nat.reduceEqDiff, Nat.reduceAdd, Nat.reduceMul, Nat.reduceSub, Nat.reduceLeDiff, Nat.reduceBEq]; rfl); all_goals (intro hcnd; first | (exact absurd hcnd (by decide)) | skip)) | ((first | refine guardC_f ?_ ?_ | refine guardC_t ?_ ?_) <;> (intro hcnd; simp (decide := true) only [go_sem, reduceIte, reduceCtorEq, Nat.reduceEqDiff, Nat.reduceAdd, Nat.reduceMul, Nat.reduceSub, Nat.reduceLeDiff, Nat.reduceBEq, hcnd]))))
  · have := le_dec l.length 40
    simp only [Int.cast_ofNat_Int] at this
    rw [this] at hcnd
    simp [few28, hcnd]
  · have := le_dec l.length 40
    simp only [Int.cast_ofNat_Int] at this
    rw [this] at hcnd
    simp [few28, hcnd]

def shortR (r : Row) : Bool := decide (r.gloss.size ≤ 100) && decide (r.senses.length ≤ 60)
def shortB (l : List Row) : Bool := decide (l.length ≤ 60) && l.all shortR

--F17
set_option maxRecDepth 10000 in
theorem short_D (l : List Row) (hl : l.length ≤ maxLen) : DCalls Try.prog 17 [dv (.sl 2 (l.map Row.enc))] (dv (lb (shortB l))) := by
  refine dcalls (N := 33) (rs := [.tmp 2]) (by kernel_rfl) Try.func17 rfl rfl rfl (by simp) ?_
  (repeat (first | (refine dw_seq ?_) | (refine dw_block ?_) | ((first | (refine dw_reg (N := 33) rfl (by kernel_rfl) ?_) | (refine dw_skip ?_) | (refine dw_exit ?_)); simp (decide := true) only [go_sem, reduceIte, reduceCtorEq, Nat.reduceEqDiff, Nat.reduceAdd, Nat.reduceMul, Nat.reduceSub, Nat.reduceLeDiff, Nat.reduceBEq])))
  have htl : (l.take 61).length ≤ l.length := by simp; omega
  refine dw_rng (l.take 61) (fun k (_ : Unit) => kn 33 [(0, dv (.sl 2 (l.map Row.enc))), (3, dv (li k))] noMem) (fun k _ => (l.take k).all shortR = true) () (by omega) (sub_kn rfl (by simp (decide := true) only [go_sem, reduceIte, reduceCtorEq, Nat.reduceEqDiff, Nat.reduceAdd, Nat.reduceMul, Nat.reduceSub, Nat.reduceLeDiff, Nat.reduceBEq]) (by simp [noMem])) (by simp) ?_ ?_
  · intro k x _ hx0 hk0 hm0 _ hd0 hw hi
    have hk : k < l.length := by omega
    have hk61 : k < 61 := by simp at hk0; omega
    have hx1 : l[k]? = some x := by rw [List.getElem?_take, if_pos hk61] at hx0; exact hx0
    have hd1 : decide ((k : Int) < (l.length : Int)) = true := by simpa using hk
    have hd2 : decide ((k : Int) < 61) = true := by simp; omega
    have bad : shortR x = false → shortB l = false := fun h => by simp only [shortB, all_false (List.mem_of_getElem? hx1) h, Bool.and_false]
    (repeat' (first | (refine dw_seq ?_) | (refine dw_block ?_) | ((first | (refine dw_reg (N := 33) rfl (by kernel_rfl) ?_) | (refine dw_skip ?_) | (refine dw_exit ?_) | (refine dw_ret ?_)); simp (decide := true) only [go_sem, reduceIte, reduceCtorEq, Nat.reduceEqDiff, Nat.reduceAdd, Nat.reduceMul, Nat.reduceSub, Nat.reduceLeDiff, Nat.reduceBEq, hd1, hd2, hx1, Row.enc, hw]) | (apply dw_cond; (simp (decide := true) only [go_sem, reduceIte, reduceCtorEq, Nat.reduceEqDiff, Nat.reduceAdd, Nat.reduceMul, Nat.reduceSub, Nat.reduceLeDiff, Nat.reduceBEq, hd1, hd2, hx1, Row.enc, hw]; rfl); all_goals (intro hcnd; first | (exact absurd hcnd (by decide)) | skip)) | ((first | refine guardC_f ?_ ?_ | refine guardC_t ?_ ?_) <;> (intro hcnd; simp (decide := true) only [go_sem, reduceIte, reduceCtorEq, Nat.reduceEqDiff, Nat.reduceAdd, Nat.reduceMul, Nat.reduceSub, Nat.reduceLeDiff, Nat.reduceBEq, hcnd, hd1, hd2, hx1, Row.enc, hw]))))
    · rw [bad (by simp only [shortR, gt_true (c := 100) ‹_›, Bool.false_and])]
    · rw [bad (by simp only [shortR, gt_true (n := x.senses.length) (c := 60) ‹_›, Bool.and_false])]
    · have d1 := gt_false (n := x.gloss.size) (c := 100) ‹_›
      have d2 := gt_false (n := x.senses.length) (c := 60) ‹_›
      refine ⟨(), ?_, sub_kn rfl (by simp (decide := true) only [go_sem, reduceIte, reduceCtorEq, Nat.reduceEqDiff, Nat.reduceAdd, Nat.reduceMul, Nat.reduceSub, Nat.reduceLeDiff, Nat.reduceBEq]) (by simp [noMem])⟩
      rw [take_snoc hx1, List.all_append, hi]
      simp only [List.all_cons, List.all_nil, shortR, d1, d2, Bool.and_self]
  · intro _ _ hi
    have hdec := le_dec l.length 60
    simp only [Int.cast_ofNat_Int] at hdec
    rcases Nat.lt_or_ge 61 l.length with h | h
    · have e : (l.take 61).length = 61 := by simp; omega
      rw [e] at hi ⊢
      have hd1 : decide ((61 : Int) < (l.length : Int)) = true := by simp; omega
      have hd2 : decide ((61 : Int) < 61) = false := by simp
      have : decide (l.length ≤ 60) = false := by simp; omega
      (repeat' (first | (refine dw_seq ?_) | (refine dw_block ?_) | ((first | (refine dw_reg (N := 33) rfl (by kernel_rfl) ?_) | (refine dw_skip ?_) | (refine dw_exit ?_) | (refine dw_ret ?_)); simp (decide := true) only [go_sem, reduceIte, reduceCtorEq, Nat.reduceEqDiff, Nat.reduceAdd, Nat.reduceMul, Nat.reduceSub, Nat.reduceLeDiff, Nat.reduceBEq, hd1, hd2]) | (apply dw_cond; (simp (decide := true) only [go_sem, reduceIte, reduceCtorEq, Nat.reduceEqDiff, Nat.reduceAdd, Nat.reduceMul, Nat.reduceSub, Nat.reduceLeDiff, Nat.reduceBEq, hd1, hd2]; rfl); all_goals (intro hcnd; first | (exact absurd hcnd (by decide)) | skip)) | ((first | refine guardC_f ?_ ?_ | refine guardC_t ?_ ?_) <;> (intro hcnd; simp (decide := true) only [go_sem, reduceIte, reduceCtorEq, Nat.reduceEqDiff, Nat.reduceAdd, Nat.reduceMul, Nat.reduceSub, Nat.reduceLeDiff, Nat.reduceBEq, hcnd, hd1, hd2]))))
      simp only [hdec, shortB, this, Bool.false_and]
    · have e : (l.take 61).length = l.length := by simp; omega
      rw [e] at hi ⊢
      rw [List.take_length] at hi
      have hd1 : decide ((l.length : Int) < (l.length : Int)) = false := by simp
      (repeat' (first | (refine dw_seq ?_) | (refine dw_block ?_) | ((first | (refine dw_reg (N := 33) rfl (by kernel_rfl) ?_) | (refine dw_skip ?_) | (refine dw_exit ?_) | (refine dw_ret ?_)); simp (decide := true) only [go_sem, reduceIte, reduceCtorEq, Nat.reduceEqDiff, Nat.reduceAdd, Nat.reduceMul, Nat.reduceSub, Nat.reduceLeDiff, Nat.reduceBEq, hd1]) | (apply dw_cond; (simp (decide := true) only [go_sem, reduceIte, reduceCtorEq, Nat.reduceEqDiff, Nat.reduceAdd, Nat.reduceMul, Nat.reduceSub, Nat.reduceLeDiff, Nat.reduceBEq, hd1]; rfl); all_goals (intro hcnd; first | (exact absurd hcnd (by decide)) | skip)) | ((first | refine guardC_f ?_ ?_ | refine guardC_t ?_ ?_) <;> (intro hcnd; simp (decide := true) only [go_sem, reduceIte, reduceCtorEq, Nat.reduceEqDiff, Nat.reduceAdd, Nat.reduceMul, Nat.reduceSub, Nat.reduceLeDiff, Nat.reduceBEq, hcnd, hd1]))))
      simp only [hdec, shortB, hi, Bool.and_true]

def getR (l : List Entry) (id : Int) : Option Entry := l.find? fun e => e.id == id
def zeroE : Entry := ⟨0, [], li 0, [], li 0, [], [], []⟩

--F28
set_option maxRecDepth 10000 in
theorem get25_D (l : List Entry) (id : Int) (hl : l.length ≤ maxLen) : DCalls Try.prog 28 [dv (.sl 8 (l.map Entry.enc)), dv (li id)] (.tup [.agg (((getR l id).getD zeroE).enc.map T.c), dv (lb (getR l id).isSome)]) := by
  refine dcalls (N := 25) (rs := [.cell 4 41, .tmp 5]) (by kernel_rfl) Try.func28 rfl rfl rfl (by simp) ?_
  (repeat (first | (refine dw_seq ?_) | (refine dw_block ?_) | ((first | (refine dw_reg (N := 25) rfl (by kernel_rfl) ?_) | (refine dw_skip ?_) | (refine dw_exit ?_)); simp (decide := true) only [go_sem, reduceIte, reduceCtorEq, Nat.reduceEqDiff, Nat.reduceAdd, Nat.reduceMul, Nat.reduceSub, Nat.reduceLeDiff, Nat.reduceBEq])))
  apply dw_exc 4; (simp (decide := true) only [go_sem, reduceIte, reduceCtorEq, Nat.reduceEqDiff, Nat.reduceAdd, Nat.reduceMul, Nat.reduceSub, Nat.reduceLeDiff, Nat.reduceBEq]; rfl)
  refine dw_rng l (fun k (_ : Unit) => kn 25 [(0, dv (.sl 8 (l.map Entry.enc))), (1, dv (li id)), (4, .one (.bx 4 8 0 0)), (8, dv (li l.length)), (9, dv (li k))] (ml [(4, [zeroE.enc.map T.c])])) (fun k _ => ∀ x ∈ l.take k, (x.id == id) = false) () hl (sub_ml rfl (by simp (decide := true) only [go_sem, reduceIte, reduceCtorEq, Nat.reduceEqDiff, Nat.reduceAdd, Nat.reduceMul, Nat.reduceSub, Nat.reduceLeDiff, Nat.reduceBEq]) (by simp (decide := true) only [go_sem, reduceIte, reduceCtorEq, Nat.reduceEqDiff, Nat.reduceAdd, Nat.reduceMul, Nat.reduceSub, Nat.reduceLeDiff, Nat.reduceBEq, Entry.enc, zeroE])) (by simp) ?_ ?_
  · intro k x _ hx1 hk hm ht hd hw hi
    (repeat' (first | (refine dw_seq ?_) | (refine dw_block ?_) | ((first | (refine dw_reg (N := 25) rfl (by kernel_rfl) ?_) | (refine dw_skip ?_) | (refine dw_exit ?_) | (refine dw_ret ?_)); simp (decide := true) only [go_sem, reduceIte, reduceCtorEq, Nat.reduceEqDiff, Nat.reduceAdd, Nat.reduceMul, Nat.reduceSub, Nat.reduceLeDiff, Nat.reduceBEq, hd, hx1, Entry.enc, hw]) | (apply dw_cond; (simp (decide := true) only [go_sem, reduceIte, reduceCtorEq, Nat.reduceEqDiff, Nat.reduceAdd, Nat.reduceMul, Nat.reduceSub, Nat.reduceLeDiff, Nat.reduceBEq, hd, hx1, Entry.enc, hw]; rfl); all_goals (intro hcnd; first | (exact absurd hcnd (by decide)) | skip)) | ((first | refine guardC_f ?_ ?_ | refine guardC_t ?_ ?_) <;> (intro hcnd; simp (decide := true) only [go_sem, reduceIte, reduceCtorEq, Nat.reduceEqDiff, Nat.reduceAdd, Nat.reduceMul, Nat.reduceSub, Nat.reduceLeDiff, Nat.reduceBEq, hcnd, hd, hx1, Entry.enc, hw]))))
    · have : getR l id = some x := find_at hx1 hi hcnd
      rw [this]; rfl
    · exact ⟨(), forall_snoc ht hi hcnd, sub_ml rfl (by simp (decide := true) only [go_sem, reduceIte, reduceCtorEq, Nat.reduceEqDiff, Nat.reduceAdd, Nat.reduceMul, Nat.reduceSub, Nat.reduceLeDiff, Nat.reduceBEq]) (by simp (decide := true) only [go_sem, reduceIte, reduceCtorEq, Nat.reduceEqDiff, Nat.reduceAdd, Nat.reduceMul, Nat.reduceSub, Nat.reduceLeDiff, Nat.reduceBEq, Entry.enc])⟩
  · intro _ hd hi
    rw [List.take_length] at hi
    (repeat' (first | (refine dw_seq ?_) | (refine dw_block ?_) | ((first | (refine dw_reg (N := 25) rfl (by kernel_rfl) ?_) | (refine dw_skip ?_) | (refine dw_exit ?_)); simp (decide := true) only [go_sem, reduceIte, reduceCtorEq, Nat.reduceEqDiff, Nat.reduceAdd, Nat.reduceMul, Nat.reduceSub, Nat.reduceLeDiff, Nat.reduceBEq, hd]) | (apply dw_cond; (simp (decide := true) only [go_sem, reduceIte, reduceCtorEq, Nat.reduceEqDiff, Nat.reduceAdd, Nat.reduceMul, Nat.reduceSub, Nat.reduceLeDiff, Nat.reduceBEq, hd]; rfl); all_goals (intro hcnd; first | (exact absurd hcnd (by decide)) | skip)) | ((first | refine guardC_f ?_ ?_ | refine guardC_t ?_ ?_) <;> (intro hcnd; simp (decide := true) only [go_sem, reduceIte, reduceCtorEq, Nat.reduceEqDiff, Nat.reduceAdd, Nat.reduceMul, Nat.reduceSub, Nat.reduceLeDiff, Nat.reduceBEq, hcnd, hd]))))
    apply dw_exc 4; (simp (decide := true) only [go_sem, reduceIte, reduceCtorEq, Nat.reduceEqDiff, Nat.reduceAdd, Nat.reduceMul, Nat.reduceSub, Nat.reduceLeDiff, Nat.reduceBEq]; rfl)
    refine dw_ret ?_; simp (decide := true) only [go_sem, reduceIte, reduceCtorEq, Nat.reduceEqDiff, Nat.reduceAdd, Nat.reduceMul, Nat.reduceSub, Nat.reduceLeDiff, Nat.reduceBEq]
    have : getR l id = none := find_no hi
    rw [this]; rfl
end Go.Proofs.Ytffcabenoakmgaa

/- Contracts of the chapter's example. -/
namespace Go.Proofs.Ytffcabenoakmgaa
open Go.Dl
attribute [local irreducible] DW DCalls ECalls wk

def sDog : ByteArray := ⟨#[100, 111, 103]⟩
def sHound : ByteArray := ⟨#[104, 111, 117, 110, 100]⟩
def e3 : Entry := ⟨3, [], li 0, [], li 0, [⟨sDog, ⟨#[]⟩⟩, ⟨sHound, ⟨#[]⟩⟩], [], []⟩
def e7 : Entry := ⟨7, [], li 0, [], li 0, [⟨sDog, ⟨#[]⟩⟩], [], []⟩
def sampleL : List Entry := [e3, e7]
def wantL : List Row := [⟨sDog, [⟨3, 0, 0⟩, ⟨7, 0, 0⟩]⟩, ⟨sHound, [⟨3, 0, 1⟩]⟩]
def want2 : List Row := [⟨sDog, [⟨7, 0, 0⟩]⟩]

theorem lt_dh : strLt sDog sHound = true := by rw [strLt_iff]; decide
theorem lt_hd : strLt sHound sDog = false := strLt_asymm lt_dh
theorem eq_dd : (sDog == sDog) = true := by rw [beq_bytes]; simp
theorem eq_hd : (sHound == sDog) = false := by rw [beq_bytes]; decide
theorem eq_dh : (sDog == sHound) = false := by rw [beq_bytes]; decide
theorem eq_hh : (sHound == sHound) = true := by rw [beq_bytes]; simp
theorem build_sample : buildR sampleL = wantL := by
  simp [buildR, sampleL, buildN, putsN, e3, e7, putR, lowR, atR, skipR, ins, lows, lt_dh, lt_hd, strLt_irrefl, eq_dd, eq_hd, eq_dh, Part.lt, wantL, pt]
theorem update_sample : updateR wantL e3 zeroE = want2 := by
  simp [updateR, e3, zeroE, takesN, takeR, keepP, wantL, want2, eq_dd, eq_hd, eq_dh, eq_hh, pt]

--F31
theorem sample_D : DCalls Try.prog 31 [] (dv (.sl 8 (sampleL.map Entry.enc))) := by
  refine dcalls (N := 9) (rs := [.tmp 0]) (by kernel_rfl) Try.func31 rfl rfl rfl (by simp) ?_
  (repeat' (first | (refine dw_seq ?_) | (refine dw_block ?_) | ((first | (refine dw_reg (N := 9) rfl (by kernel_rfl) ?_) | (refine dw_skip ?_) | (refine dw_exit ?_)); simp (decide := true) only [go_sem, reduceIte, reduceCtorEq, Nat.reduceEqDiff, Nat.reduceAdd, Nat.reduceMul, Nat.reduceSub, Nat.reduceLeDiff, Nat.reduceBEq]) | (apply dw_cond; (simp (decide := true) only [go_sem, reduceIte, reduceCtorEq, Nat.reduceEqDiff, Nat.reduceAdd, Nat.reduceMul, Nat.reduceSub, Nat.reduceLeDiff, Nat.reduceBEq]; rfl); all_goals (intro hcnd; first | (exact absurd hcnd (by decide)) | skip)) | ((first | refine guardC_f ?_ ?_ | refine guardC_t ?_ ?_) <;> (intro hcnd; simp (decide := true) only [go_sem, reduceIte, reduceCtorEq, Nat.reduceEqDiff, Nat.reduceAdd, Nat.reduceMul, Nat.reduceSub, Nat.reduceLeDiff, Nat.reduceBEq, hcnd]))))
  refine dw_slot 0 (dv (.sl 8 (sampleL.map Entry.enc))) (by simp (decide := true) only [go_sem, reduceIte, reduceCtorEq, Nat.reduceEqDiff, Nat.reduceAdd, Nat.reduceMul, Nat.reduceSub, Nat.reduceLeDiff, Nat.reduceBEq]; exact DLe.ex_ 8 _) ?_
  refine dw_ret ?_; simp (decide := true) only [go_sem, reduceIte, reduceCtorEq, Nat.reduceEqDiff, Nat.reduceAdd, Nat.reduceMul, Nat.reduceSub, Nat.reduceLeDiff, Nat.reduceBEq]

theorem want_good : RGood wantL := by
  refine ⟨?_, ?_, ?_⟩
  · simp [wantL, lt_dh]
  · intro r hr
    simp only [wantL, List.mem_cons, List.not_mem_nil, or_false] at hr
    rcases hr with rfl | rfl
    · exact ⟨by simp, by simp [Part.lt]⟩
    · exact ⟨by simp, by simp⟩
  · simp [wantL]
theorem want_ok : RowsOk 2500 wantL := ⟨by simp [wantL], by simp [wantL]⟩

theorem chk_want : checkR wantL = 0 := by
  have h0 : ∀ j < wantL.length, rowAtC wantL j = none := by
    intro j hj
    simp [wantL] at hj
    have : j = 0 ∨ j = 1 := by omega
    rcases this with rfl | rfl
    · simp [rowAtC, wantL, fs, partAt, List.range_succ, Part.lt]
    · simp [rowAtC, wantL, fs, partAt, List.range_succ, strLt_asymm lt_dh, eq_hd]
  unfold checkR
  rw [fs_none h0]; rfl
theorem chk_one : checkR [⟨⟨#[]⟩, []⟩] = 4 := by
  simp [checkR, rowAtC, fs, List.range_succ]
theorem find_want : findR wantL sHound = [⟨3, 0, 1⟩] := by
  simp [findR, findAt, wantL, fs, List.range_succ, eq_dh, eq_hh]

--F13
set_option maxRecDepth 10000 in
set_option maxHeartbeats 4000000 in
theorem awake_D : DCalls Try.prog 13 [] (dv (lb true)) := by
  have h0 : sampleL[0]? = some e3 := rfl
  have k1 := buildP_D sampleL (by simp [sampleL]) (by simp [sampleL, e3, e7])
  rw [build_sample] at k1
  have k2 := updateP_D wantL e3 zeroE want_ok want_good (by simp [e3]) (by simp [zeroE])
  rw [update_sample] at k2
  have k3 := same_D wantL wantL (by simp [wantL]) (by simp [wantL]) (by simp [wantL, maxLen]) (by simp [wantL, maxLen])
  have k4 := same_D want2 want2 (by simp [want2]) (by simp [want2]) (by simp [want2, maxLen]) (by simp [want2, maxLen])
  have k5 := checkP_D wantL (by simp [wantL]) (by simp [wantL])
  have k6 := checkP_D [⟨⟨#[]⟩, []⟩] (by simp) (by simp)
  have k7 := findP_D wantL sHound (by simp [wantL])
  rw [chk_want] at k5
  rw [chk_one] at k6
  rw [find_want] at k7
  have k8 := parts_D [⟨3, 0, 1⟩] [⟨3, 0, 1⟩] (by simp [maxLen]) (by simp [maxLen])
  have k9 := sameP_D wantL wantL (by simp [wantL]) (by simp [wantL]) (by simp [wantL]) (by simp [wantL])
  have k10 := sameP_D wantL want2 (by simp [wantL]) (by simp [want2]) (by simp [wantL]) (by simp [want2])
  have n1 : decide (wantL = want2) = false := by simp [wantL, want2]
  rw [n1] at k10
  simp only [decide_true] at k3 k4 k8 k9
  refine dcalls (N := 60) (rs := [.tmp 0]) (by kernel_rfl) Try.func13 rfl rfl rfl (by simp) ?_
  (repeat' (first | (refine dw_seq ?_) | (refine dw_block ?_) | ((first | (refine dw_reg (N := 60) rfl (by kernel_rfl) ?_) | (refine dw_skip ?_) | (refine dw_exit ?_) | (refine CallC.mk (sample_D) (LeL.of_eq rfl) ?_) | (refine CallC.light (sample_D) (LeL.of_eq rfl) ?_) | (refine CallC.mk (k1) (LeL.of_eq rfl) ?_) | (refine CallC.light (k1) (LeL.of_eq rfl) ?_) | (refine CallC.mk (k2) (LeL.of_eq rfl) ?_) | (refine CallC.light (k2) (LeL.of_eq rfl) ?_) | (refine CallC.mk (k3) (LeL.of_eq rfl) ?_) | (refine CallC.light (k3) (LeL.of_eq rfl) ?_) | (refine CallC.mk (k5) (LeL.of_eq rfl) ?_) | (refine CallC.light (k5) (LeL.of_eq rfl) ?_) | (refine CallC.mk (k6) (LeL.of_eq rfl) ?_) | (refine CallC.light (k6) (LeL.of_eq rfl) ?_) | (refine CallC.mk (k7) (LeL.of_eq rfl) ?_) | (refine CallC.light (k7) (LeL.of_eq rfl) ?_) | (refine CallC.mk (k8) (LeL.of_eq rfl) ?_) | (refine CallC.light (k8) (LeL.of_eq rfl) ?_) | (refine CallC.mk (k4) (LeL.of_eq rfl) ?_) | (refine CallC.light (k4) (LeL.of_eq rfl) ?_) | (refine CallC.mk (k9) (LeL.of_eq rfl) ?_) | (refine CallC.light (k9) (LeL.of_eq rfl) ?_) | (refine CallC.mk (k10) (LeL.of_eq rfl) ?_) | (refine CallC.light (k10) (LeL.of_eq rfl) ?_) | (refine dw_ret ?_)); simp (decide := true) only [go_sem, reduceIte, reduceCtorEq, Nat.reduceEqDiff, Nat.reduceAdd, Nat.reduceMul, Nat.reduceSub, Nat.reduceLeDiff, Nat.reduceBEq, h0, Entry.enc]) | (apply dw_cond; (simp (decide := true) only [go_sem, reduceIte, reduceCtorEq, Nat.reduceEqDiff, Nat.reduceAdd, Nat.reduceMul, Nat.reduceSub, Nat.reduceLeDiff, Nat.reduceBEq, h0, Entry.enc]; rfl); all_goals (intro hcnd; first | (exact absurd hcnd (by decide)) | skip)) | ((first | refine guardC_f ?_ ?_ | refine guardC_t ?_ ?_) <;> (intro hcnd; simp (decide := true) only [go_sem, reduceIte, reduceCtorEq, Nat.reduceEqDiff, Nat.reduceAdd, Nat.reduceMul, Nat.reduceSub, Nat.reduceLeDiff, Nat.reduceBEq, hcnd, h0, Entry.enc]))))
end Go.Proofs.Ytffcabenoakmgaa
