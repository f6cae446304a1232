/- The logic of data over the kit's walk, and contracts of the functions that the laws reach, each said by plain data; part 4 of 4. -/
import Derived.Test.YtfliennlinngeaaDoorm2
set_option linter.all false
set_option linter.unusedVariables false
set_option linter.unusedSimpArgs false
/- Lists of numbers: num.filter, at the machine. -/
namespace Go.Proofs.YtfliennlinngeaaDoor
open Go.RowKit Go.Maps Go.Lib Go.Sort
open Go.Dl hiding Rows
open S (usort)
attribute [local irreducible] DW DCalls ECalls wk IW

theorem sorted_u (r : List I64) (hl : r.length ≤ 1000000) {B : Nat} {vd : Value} {w W : World} {K : KSet} (hk : KOk w K) (hW : Below w.heap.size w W) (hB : w.heap.size ≤ B) (hcl : CL r B vd W) :
    Calls Tryd.prog 20 #[vd] W fun e W' => ∃ v E', e = .returned v ∧ Ret w K W' E' ∧ VD W' E' (dv (.sl 1 (ints (usort (valsI r))))) v := by
  have hkW : KOk W K := below_kok hk hW
  have hS := S.sorted_D (valsI r) (by simp [valsI]; omega)
  unfold DCalls at hS
  have go : ∀ K2 : KSet, (∀ b o, K b o → K2 b o) → (∀ b o, K2 b o → K b o ∨ w.heap.size ≤ b) → KOk W K2 → VC W K2 (.sl 1 (ints (valsI r))) vd → Calls Tryd.prog 20 #[vd] W fun e W' => ∃ v E', e = .returned v ∧ Ret w K W' E' ∧ VD W' E' (dv (.sl 1 (ints (usort (valsI r))))) v := by
    intro K2 k1 k2 hk2 hv2
    refine (hS.2 W K2 #[vd] hk2 rfl (fun j d v h1 h2 => by
      match j with
      | 0 => simp at h1 h2; subst h1; subst h2; exact .one _ _ (.c _ _ hv2)
      | _ + 1 => simp at h1)).mono ?_
    rintro e W' ⟨v, E', rfl, hR, hv⟩
    refine ⟨v, E', rfl, ⟨hW.trans (hR.below.mono hW.size), fun b o h => hR.kin b o (k1 b o h), fun b o hb h => ?_, hR.kok, fun n b o hs => ?_, hR.disj⟩, hv⟩
    · have hbs := hW.size
      rcases k2 b o (hR.kold b o (by omega) h) with h | h
      · exact h
      · omega
    · obtain ⟨h1, h2, h3⟩ := hR.free n b o hs
      exact ⟨Nat.le_trans hW.size h1, h2, h3⟩
  rcases hcl with ⟨rfl, hv⟩ | ⟨blk, cap, rfl, hb, hlt, hc, hm, hH⟩
  · refine go K (fun _ _ h => h) (fun _ _ h => .inl h) hkW ?_
    rcases hv with rfl | ⟨a, c, rfl, hcm⟩
    · exact .nil 1
    · exact VC.sl 1 [] a c (fun _ => .bool true) (fun r h => by cases h) (Nat.zero_le _) hcm (fun j hj => by simp at hj) (fun i j r c h => by simp at h)
  · refine go (fun b o => K b o ∨ (b = blk ∧ o < r.length)) (fun _ _ h => .inl h) (fun b o h => h.imp id fun h => by omega) (hkW.wide (fun b o h => ⟨.inl h, rfl⟩) (fun b o h => ?_) hkW.z) ?_
    · rcases h with h | ⟨rfl, ho⟩
      · exact hkW.ok b o h
      · have := (hH o (by simpa using ho)).1
        rw [Nat.zero_add] at this
        rw [this]; rfl
    · have hlen : (ints (valsI r)).length = r.length := by simp [valsI]
      have := VC.sl (w := W) (K := fun b o => K b o ∨ (b = blk ∧ o < r.length)) 1 (ints (valsI r)) ⟨blk, 0, none⟩ cap (fun j => encI r.toArray[j]!) (fun r h => by obtain ⟨x, _, rfl⟩ := List.mem_map.1 h; rfl) (by rw [hlen]; exact hc) hm
        (fun j hj => by
          have hj' : j < r.length := by rw [hlen] at hj; omega
          have := (hH j (by simpa using hj')).1
          exact ⟨rfl, .inr ⟨rfl, by simp only; omega⟩, this⟩)
        (fun i j rr c h1 h2 => by
          simp only [ints, valsI, List.map_map, List.getElem?_map, Option.map_eq_some_iff] at h1
          obtain ⟨x, hx, rfl⟩ := h1
          obtain ⟨hi, hxe⟩ := List.getElem?_eq_some_iff.1 hx
          cases j with
          | zero =>
            simp at h2
            subst h2
            have e : r.toArray[i * 1 + 0]! = x := by rw [Nat.mul_one, Nat.add_zero, getElem!_pos _ i (by simpa using hi)]; simpa using hxe
            rw [e]
            exact .lit _ rfl
          | succ j => simp at h2)
      rwa [hlen] at this

theorem del2 (b : List Int) (wanted : Bool) (s n : Nat) {W W1 : World} (hs : s + 2 < W.heap.size) (h7 : W.cell? ⟨s + 1 + 1, 0, none⟩ = some (.map (some (s + 1)))) (h5 : W.cell? ⟨s, 0, none⟩ = some (.bool wanted))
    (hown : W.ownsMap Tryd.prog 3 (plainElem (H := Unit) Tryd.prog 4) (s + 1) n (mapOf b)) (hb1 : Below W.heap.size W W1) (l : List I64) {vc : Value} (hcl : CL l W.heap.size vc W1) :
    Calls Tryd.prog 48 #[vc, .func (.func 50) #[] #[.pointer (some ⟨s + 1 + 1, 0, none⟩), .pointer (some ⟨s, 0, none⟩)]] W1 fun e W2 => ∃ vd, e = .returned vd ∧ CL (l.filter fun x => !(inL b x.1 != wanted)) W.heap.size vd W2 ∧ Below W.heap.size W1 W2 := by
  have hsz := hb1.size
  have k7 := (hb1.cell (p := ⟨s + 1 + 1, 0, none⟩) (by show s + 1 + 1 < _; omega)).trans h7
  have k5 := (hb1.cell (p := ⟨s, 0, none⟩) (by show s < _; omega)).trans h5
  have kown : W1.ownsMap Tryd.prog 3 (plainElem (H := Unit) Tryd.prog 4) (s + 1) n (mapOf b) := by
    obtain ⟨es, clock, e1, e2⟩ := hown
    exact ⟨es, clock, (hb1.block _ (Array.getElem?_eq_some_iff.1 e1).1).trans e1, e2⟩
  exact del_u _ _ l hcl hb1.size (pred50 b wanted _ _ _ n W1 (by omega) (by omega) k7 k5 kown) (fun blk off size hB => over50 b wanted _ _ _ n blk off size W1 (by omega) (by omega) (by omega) (by omega) (by omega) k7 k5 kown)

set_option maxRecDepth 100000 in
set_option maxHeartbeats 8000000 in
theorem filter_calls (l : List I64) (b : List Int) (hbw : ∀ x ∈ b, wfI x) (hl : l.length ≤ 1000000) (hbl : b.length ≤ 1000000) (wanted : Bool) {w : World} {K : KSet} (hk : KOk w K) {va vb : Value} (hva : VC w K (.sl 1 (ints (valsI l))) va) (hvb : VC w K (.sl 1 (ints b)) vb) :
    Calls Tryd.prog 39 #[va, vb, .bool wanted] w fun e w' => ∃ v E', e = .returned v ∧ Ret w K w' E' ∧ VD w' E' (dv (.sl 1 (ints (usort (valsI (l.filter fun x => !(inL b x.1 != wanted))))))) v := by
  have hmm := @run_makeMap Tryd.prog
  have hfl : (l.filter fun x => !(inL b x.1 != wanted)).length ≤ 1000000 := Nat.le_trans (List.length_filter_le _ _) hl
  have hW0 : Below w.heap.size w (((w.alloc (.cells #[.bool wanted] 4)).alloc (.map #[] 0)).alloc (.cells #[.map (some (w.heap.size + 1))] 55)) :=
    (((Below.refl _ w).alloc (Nat.le_refl _) _).alloc (by simp) _).alloc (by simp; omega) _
  have f5 : (((w.alloc (.cells #[.bool wanted] 4)).alloc (.map #[] 0)).alloc (.cells #[.map (some (w.heap.size + 1))] 55)).cell? ⟨w.heap.size, 0, none⟩ = some (.bool wanted) := by
    rw [World.cell?_alloc_lt _ _ _ (by simp; omega), World.cell?_alloc_lt _ _ _ (by simp), World.cell?_alloc_at _ _ _ 0 rfl]; rfl
  have f7 : (((w.alloc (.cells #[.bool wanted] 4)).alloc (.map #[] 0)).alloc (.cells #[.map (some (w.heap.size + 1))] 55)).cell? ⟨w.heap.size + 1 + 1, 0, none⟩ = some (.map (some (w.heap.size + 1))) := by
    rw [World.cell?_alloc_at _ _ _ 0 (by simp)]; rfl
  have fown : (((w.alloc (.cells #[.bool wanted] 4)).alloc (.map #[] 0)).alloc (.cells #[.map (some (w.heap.size + 1))] 55)).ownsMap Tryd.prog 3 (plainElem (H := Unit) Tryd.prog 4) (w.heap.size + 1) 0 (mapOf []) := by
    have h := (World.ownsMap_made (w.alloc (.cells #[.bool wanted] 4)) Tryd.prog 3 (plainElem (H := Unit) Tryd.prog 4)).alloc (.cells #[.map (some (w.heap.size + 1))] 55)
    rwa [World.size_alloc] at h
  have fsz : w.heap.size + 2 < (((w.alloc (.cells #[.bool wanted] 4)).alloc (.map #[] 0)).alloc (.cells #[.map (some (w.heap.size + 1))] 55)).heap.size := by simp
  by_cases hb0 : b = []
  · obtain ⟨A, c, rfl⟩ : ∃ A c, vb = .slice A 0 c := by
      subst hb0
      rcases hvb.sl_inv with ⟨h, _⟩ | ⟨a, cap, cv, h, _⟩
      · exact ⟨_, _, h⟩
      · exact ⟨_, _, h⟩
    subst hb0
    go_enter Tryd.func39, Tryd.ntmps39
    go_wp2
    refine wp_loop_rounds 1 ?_
    rw [rounds_succ]
    generalize (((w.alloc (.cells #[.bool wanted] 4)).alloc (.map #[] 0)).alloc (.cells #[.map (some (w.heap.size + 1))] 55)) = W at *
    go_wp2_with (go_at_call 49; refine (clone_u l hl hk hva hW0).mono ?_)
    rintro e W1 ⟨vc, rfl, hcl, hb1⟩
    go_wp2_with (go_at_call 48; refine (del2 [] wanted w.heap.size 0 fsz f7 f5 fown hb1 l hcl).mono ?_)
    rintro e W2 ⟨vd, rfl, hcd, hb2⟩
    go_wp2_with (go_at_call 20; refine (sorted_u _ hfl hk (hW0.trans ((hb1.mono hW0.size).trans (hb2.mono hW0.size))) hW0.size hcd).mono ?_)
    rintro e W3 ⟨v, E', rfl, hR, hv⟩
    go_wp2
    go_ret
    exact ⟨v, E', rfl, hR, hv⟩
  · have hpos : 0 < b.length := List.length_pos_iff.2 hb0
    have hlen : (ints b).length = b.length := by simp
    obtain ⟨a, cap, cv, rfl, hcc, hm, hK, hr⟩ : ∃ (a : Addr) (cap : Nat) (cv : Nat → Value), vb = .slice (some a) (ints b).length cap ∧ (ints b).length ≤ cap ∧ cap ≤ maxLen ∧ (∀ j, j < (ints b).length * 1 → a.spot = none ∧ K a.block (a.off + j) ∧ w.cell? ⟨a.block, a.off + j, none⟩ = some (cv j)) ∧ (∀ (i j : Nat) r c, (ints b)[i]? = some r → r[j]? = some c → VC w K c (cv (i * 1 + j))) := by
      rcases hvb.sl_inv with ⟨_, h⟩ | ⟨a, cap, cv, h1, _, h2, h3, h4, h5⟩
      · rw [h] at hlen; simp at hlen; omega
      · exact ⟨a, cap, cv, h1, h2, h3, h4, h5⟩
    rw [hlen] at hcc hK ⊢
    obtain ⟨blk, off, spot⟩ := a
    obtain rfl : spot = none := (hK 0 (by omega)).1
    have hbcell : ∀ k, k < b.length → w.cell? ⟨blk, off + k, none⟩ = some (.int .i64 (b.getD k 0)) := fun k hk2 => by
      have h1 := hr k 0 [li b[k]] (li b[k]) (by simp [hk2]) rfl
      rw [Nat.mul_one, Nat.add_zero] at h1
      have h2 : cv k = .int .i64 b[k] := (VD.one _ _ (VT.c _ _ h1) : VD w (E0 K) (dv (li b[k])) (cv k)).lit
      rw [(hK k (by omega)).2.2, h2]
      simp [List.getD, hk2]
    have hblk : blk < w.heap.size := lt_of_cell (hk _ _ (hK 0 (by omega)).2.1)
    have hblen : b.length ≤ 1000000 := hbl
    clear hK hr hvb hlen
    go_enter Tryd.func39, Tryd.ntmps39
    go_wp2
    go_loopw [13] (fun i wr => ∃ k : Nat, k ≤ b.length ∧ i = .int .i64 k ∧ wr.ownsMap Tryd.prog 3 (plainElem (H := Unit) Tryd.prog 4) (w.heap.size + 1) k (mapOf (b.take k)) ∧ Below w.heap.size w wr ∧ wr.cell? ⟨w.heap.size, 0, none⟩ = some (.bool wanted) ∧ wr.cell? ⟨w.heap.size + 1 + 1, 0, none⟩ = some (.map (some (w.heap.size + 1))) ∧ w.heap.size + 2 < wr.heap.size)
      (fun i _ => b.length - (intOf i).toNat)
    case atStart => exact ⟨0, Nat.zero_le _, rfl, fown, hW0, f5, f7, fsz⟩
    case round =>
      obtain ⟨k, hkb, rfl, hown, hbW, h5, h7, hsz⟩ := hrel
      clear f5 f7 fown fsz hW0
      obtain ⟨x, hx⟩ : ∃ x : Int, x = b.getD k 0 := ⟨_, rfl⟩
      have hcx : k < b.length → wr.cell? ⟨blk, off + k, none⟩ = some (.int .i64 x) := fun h => by rw [hx]; exact (hbW.cell (by exact hblk)).trans (hbcell k h)
      have hwx : wfI x := by
        rw [hx]
        by_cases h : k < b.length
        · rw [List.getD, List.getElem?_eq_getElem h]; exact hbw _ (List.getElem_mem h)
        · rw [List.getD, List.getElem?_eq_none (by omega)]; show (Lit.int .i64 0).wf = true; decide
      have hkey : keyOf Tryd.prog 3 (.int .i64 x) = some (.int .i64 x) := keyOf_int_mk Tryd.underlying3 hwx
      have htk : k < b.length → b.take (k + 1) = b.take k ++ [x] := fun h => by
        rw [hx, take_snoc (List.getElem?_eq_getElem h), List.getD, List.getElem?_eq_getElem h]; rfl
      clear hx
      go_wp2_with (first
        | (at_mapUpdate; refine wpList_mapUpdate_own _ rfl _ _ _ 55 rfl 3 4 law3 Tryd.underlying55 (plainElem (H := Unit) Tryd.prog 4) (w.heap.size + 1) k _ rfl hown (by unfold maxLen; omega) _ _ _ rfl rfl hkey _ [] (plainElem_bool Tryd.underlying4 true) ?_)
        | (go_at_call 49; refine (clone_u l hl hk hva hbW).mono ?_)
        | go_in)
      · intro w1 hown1 hgrow1
        have hlt : k < b.length := by assumption
        have R1 : w1.ownsMap Tryd.prog 3 (plainElem (H := Unit) Tryd.prog 4) (w.heap.size + 1) (k + 1) (mapOf (b.take (k + 1))) := by rw [htk hlt, mapOf_snoc]; exact hown1
        have R2 := hbW.grown hgrow1 hbW.size (fun j hj => by cases hj; omega)
        have hcell : ∀ B, B < wr.heap.size → B ≠ w.heap.size + 1 → w1.cell? ⟨B, 0, none⟩ = wr.cell? ⟨B, 0, none⟩ := fun B hB hne => World.cell?_of_block (w := wr) (a := ⟨B, 0, none⟩) (hgrow1.block B hB (fun e => hne (by injection e)))
        have R5 := (hcell w.heap.size (by omega) (by omega)).trans h5
        have R7 := (hcell (w.heap.size + 1 + 1) (by omega) (by omega)).trans h7
        have R8 : w.heap.size + 2 < w1.heap.size := Nat.lt_of_lt_of_le hsz hgrow1.size
        clear hown1 hgrow1 hown hcell h5 h7 hcx
        go_wp2
        go_roundw
        case rel => exact ⟨k + 1, by omega, by go_num, R1, R2, R5, R7, R8⟩
        case measure => simp [intOf]; omega
      · have hkk : k = b.length := by omega
        subst hkk
        rw [List.take_length] at hown
        clear hcx htk hkey hwx
        rintro e W1 ⟨vc, rfl, hcl, hb1⟩
        go_wp2_with (go_at_call 48; refine (del2 b wanted w.heap.size _ hsz h7 h5 hown hb1 l hcl).mono ?_)
        rintro e W2 ⟨vd, rfl, hcd, hb2⟩
        go_wp2_with (go_at_call 20; refine (sorted_u _ hfl hk (hbW.trans ((hb1.mono hbW.size).trans (hb2.mono hbW.size))) hbW.size hcd).mono ?_)
        rintro e W3 ⟨v, E', rfl, hR, hv⟩
        go_wp2
        go_ret
        exact ⟨v, E', rfl, hR, hv⟩
end Go.Proofs.YtfliennlinngeaaDoor

/- Lists of numbers: num.Minus, num.Both; the chapter's examples. -/
namespace Go.Proofs.YtfliennlinngeaaDoor
open Go.Dl Go.Lib
open S (usort)
attribute [local irreducible] DW DCalls ECalls wk IW

theorem filter_D (a b : List Int) (wanted : Bool) (ha : ∀ x ∈ a, wfI x) (hb : ∀ x ∈ b, wfI x) (hl : a.length ≤ 1000000) (hbl : b.length ≤ 1000000) : DCalls Tryd.prog 39 [dv (.sl 1 (ints a)), dv (.sl 1 (ints b)), dv (lb wanted)] (dv (.sl 1 (ints (usort (a.filter fun x => !(inL b x != wanted)))))) := by
  obtain ⟨l, hla⟩ : ∃ l : List I64, valsI l = a := ⟨a.attachWith wfI ha, by simp [valsI]⟩
  subst hla
  have hf : (valsI l).filter (fun x => !(inL b x != wanted)) = valsI (l.filter fun x => !(inL b x.1 != wanted)) := by
    unfold valsI; rw [List.filter_map]; rfl
  rw [hf]
  unfold DCalls
  refine ⟨by kernel_rfl, fun w K vs hk hs hv => ?_⟩
  obtain ⟨va, vb, vc, rfl⟩ : ∃ va vb vc, vs = #[va, vb, vc] := by
    match vs, hs with
    | ⟨[va, vb, vc]⟩, _ => exact ⟨va, vb, vc, rfl⟩
  have h0 := hv 0 _ va rfl rfl
  have h1 := hv 1 _ vb rfl rfl
  have h2 := (hv 2 _ vc rfl rfl).lit
  subst h2
  cases h0 with | one t v h0 => cases h0 with | c c v h0 =>
    cases h1 with | one t v h1 => cases h1 with | c c v h1 =>
      exact filter_calls l b hb (by simpa [valsI] using hl) hbl wanted hk h0 h1

set_option maxRecDepth 10000 in
--F26
theorem minus_D (a b : List Int) (ha : ∀ x ∈ a, wfI x) (hb : ∀ x ∈ b, wfI x) (hl : a.length ≤ 1000000) (hbl : b.length ≤ 1000000) : DCalls Tryd.prog 26 [dv (.sl 1 (ints a)), dv (.sl 1 (ints b))] (dv (.sl 1 (ints (minI a b)))) := by
  have hF := filter_D a b false ha hb hl hbl
  have e : (fun x => !(inL b x != false)) = fun x => !inL b x := by funext x; cases inL b x <;> rfl
  rw [e] at hF
  refine dcalls (N := 8) (rs := [.tmp 4]) (by kernel_rfl) Tryd.func26 rfl rfl rfl (by simp) ?_
  (repeat' (first | (refine dw_seq ?_) | (refine dw_block ?_) | ((first | (refine dw_reg (N := 8) rfl (by kernel_rfl) ?_) | (refine dw_skip ?_) | (refine dw_exit ?_) | (refine CallC.mk (hF) (LeL.of_eq rfl) ?_) | (refine CallC.light (hF) (LeL.of_eq rfl) ?_) | (refine dw_ret ?_)); simp (decide := true) only [go_sem, reduceIte, reduceCtorEq, Nat.reduceEqDiff, Nat.reduceAdd, Nat.reduceMul, Nat.reduceSub, Nat.reduceLeDiff, Nat.reduceBEq]) | (apply dw_cond; (simp (decide := true) only [go_sem, reduceIte, reduceCtorEq, Nat.reduceEqDiff, Nat.reduceAdd, Nat.reduceMul, Nat.reduceSub, Nat.reduceLeDiff, Nat.reduceBEq]; rfl); all_goals (intro hcnd; first | (exact absurd hcnd (by decide)) | skip)) | ((first | refine guardC_f ?_ ?_ | refine guardC_t ?_ ?_) <;> (intro hcnd; simp (decide := true) only [go_sem, reduceIte, reduceCtorEq, Nat.reduceEqDiff, Nat.reduceAdd, Nat.reduceMul, Nat.reduceSub, Nat.reduceLeDiff, Nat.reduceBEq, hcnd]))))
  rfl

set_option maxRecDepth 10000 in
--F28
theorem both_D (a b : List Int) (ha : ∀ x ∈ a, wfI x) (hb : ∀ x ∈ b, wfI x) (hl : a.length ≤ 1000000) (hbl : b.length ≤ 1000000) : DCalls Tryd.prog 28 [dv (.sl 1 (ints a)), dv (.sl 1 (ints b))] (dv (.sl 1 (ints (botI a b)))) := by
  have hF := filter_D a b true ha hb hl hbl
  have e : (fun x => !(inL b x != true)) = fun x => inL b x := by funext x; cases inL b x <;> rfl
  rw [e] at hF
  refine dcalls (N := 8) (rs := [.tmp 4]) (by kernel_rfl) Tryd.func28 rfl rfl rfl (by simp) ?_
  (repeat' (first | (refine dw_seq ?_) | (refine dw_block ?_) | ((first | (refine dw_reg (N := 8) rfl (by kernel_rfl) ?_) | (refine dw_skip ?_) | (refine dw_exit ?_) | (refine CallC.mk (hF) (LeL.of_eq rfl) ?_) | (refine CallC.light (hF) (LeL.of_eq rfl) ?_) | (refine dw_ret ?_)); simp (decide := true) only [go_sem, reduceIte, reduceCtorEq, Nat.reduceEqDiff, Nat.reduceAdd, Nat.reduceMul, Nat.reduceSub, Nat.reduceLeDiff, Nat.reduceBEq]) | (apply dw_cond; (simp (decide := true) only [go_sem, reduceIte, reduceCtorEq, Nat.reduceEqDiff, Nat.reduceAdd, Nat.reduceMul, Nat.reduceSub, Nat.reduceLeDiff, Nat.reduceBEq]; rfl); all_goals (intro hcnd; first | (exact absurd hcnd (by decide)) | skip)) | ((first | refine guardC_f ?_ ?_ | refine guardC_t ?_ ?_) <;> (intro hcnd; simp (decide := true) only [go_sem, reduceIte, reduceCtorEq, Nat.reduceEqDiff, Nat.reduceAdd, Nat.reduceMul, Nat.reduceSub, Nat.reduceLeDiff, Nat.reduceBEq, hcnd]))))
  rfl

theorem dd_120 : itoa (-120) = [45, 49, 50, 48] := by
  rw [itoa_neg (by decide)]
  show 45 :: decDigits 120 = _
  rw [dd_big (by decide)]
  show 45 :: (decDigits 12 ++ _) = _
  rw [dd_big (by decide)]
  show 45 :: (decDigits 1 ++ _ ++ _) = _
  rw [dd_small (by decide)]
  rfl
theorem dd_7 : itoa 7 = [55] := by
  rw [itoa_pos (by decide)]
  show decDigits 7 = _
  rw [dd_small (by decide)]
  rfl
theorem dd_0 : itoa 0 = [48] := by
  rw [itoa_pos (by decide)]
  show decDigits 0 = _
  rw [dd_small (by decide)]
  rfl
theorem ex_p1 : parseP [45, 49, 50, 48] = (-120, true) := by rw [← dd_120]; exact parseP_of (by decide) (by decide)
theorem ex_p2 : parseP [48, 48, 55] = (0, false) := by
  rw [← parse_eq, parseR_some (u := 7) (by decide), show sgn [48, 48, 55] 7 = 7 from rfl, dd_7]; exact if_neg (by decide)
theorem ex_p3 : parseP [] = (0, false) := by
  rw [← parse_eq, parseR_some (u := 0) (by decide), show sgn [] 0 = 0 from rfl, dd_0]; exact if_neg (by decide)
theorem ex_m : minI [4, 2, 2, 9] [9] = [2, 4] := by
  rw [minI, show [4, 2, 2, 9].filter (fun x => !inL [9] x) = [4, 2, 2] by decide]
  exact usort_eq (by simp) (fun x => by simp; omega)
theorem ex_wf : ∀ x ∈ [(4 : Int), 2, 2, 9], wfI x := fun x hx => by
  simp at hx
  rcases hx with rfl | rfl | rfl <;> (show (Lit.int .i64 _).wf = true; decide)
theorem ex_wf9 : ∀ x ∈ [(9 : Int)], wfI x := fun x hx => by
  rw [List.mem_singleton.1 hx]; show (Lit.int .i64 9).wf = true; decide

set_option maxRecDepth 20000 in
set_option maxHeartbeats 8000000 in
--F13
theorem awake_D : DCalls Tryd.prog 13 [] (dv (lb true)) := by
  have p1 := parse_D ⟨#[45, 49, 50, 48]⟩ (by decide)
  have p2 := parse_D ⟨#[48, 48, 55]⟩ (by decide)
  have p3 := parse_D ⟨#[]⟩ (by decide)
  simp only at p1 p2 p3
  rw [ex_p1] at p1
  rw [ex_p2] at p2
  rw [ex_p3] at p3
  have c1 := clip_D 7 1 5
  have c2 := clip_D 7 9 5
  rw [show clipI 7 1 5 = 5 by decide] at c1
  rw [show clipI 7 9 5 = 9 by decide] at c2
  have t1 := textN_D (-120) (by decide) (by decide)
  rw [show numB (-120) = ⟨#[45, 49, 50, 48]⟩ by rw [numB, dd_120]] at t1
  have m1 := minus_D [4, 2, 2, 9] [9] ex_wf ex_wf9 (by decide) (by decide)
  rw [ex_m] at m1
  have s1 := sameI_D [2, 4] [2, 4] (by decide)
  rw [decide_eq_true rfl] at s1
  have h1 := hasN_D [4, 2] 2 (by decide)
  rw [show inL [4, 2] 2 = true by decide] at h1
  simp only [List.map_cons, List.map_nil] at m1 s1 h1
  have e0 : ((⟨#[45, 49, 50, 48]⟩ : ByteArray) == ⟨#[45, 49, 50, 48]⟩) = true := (bytes_eq _ _).2 rfl
  refine dcalls (N := 55) (rs := [.tmp 0]) (by kernel_rfl) Tryd.func13 rfl rfl rfl (by simp) ?_
  (repeat' (first | (refine dw_seq ?_) | (refine dw_block ?_) | ((first | (refine dw_reg (N := 55) rfl (by kernel_rfl) ?_) | (refine dw_skip ?_) | (refine dw_exit ?_) | (refine CallC.mk (p1) (LeL.of_eq rfl) ?_) | (refine CallC.light (p1) (LeL.of_eq rfl) ?_) | (refine CallC.mk (p2) (LeL.of_eq rfl) ?_) | (refine CallC.light (p2) (LeL.of_eq rfl) ?_) | (refine CallC.mk (p3) (LeL.of_eq rfl) ?_) | (refine CallC.light (p3) (LeL.of_eq rfl) ?_) | (refine CallC.mk (c1) (LeL.of_eq rfl) ?_) | (refine CallC.light (c1) (LeL.of_eq rfl) ?_) | (refine CallC.mk (c2) (LeL.of_eq rfl) ?_) | (refine CallC.light (c2) (LeL.of_eq rfl) ?_) | (refine CallC.mk (t1) (LeL.of_eq rfl) ?_) | (refine CallC.light (t1) (LeL.of_eq rfl) ?_) | (refine CallC.mk (m1) (LeL.of_eq rfl) ?_) | (refine CallC.light (m1) (LeL.of_eq rfl) ?_) | (refine CallC.mk (s1) (LeL.of_eq rfl) ?_) | (refine CallC.light (s1) (LeL.of_eq rfl) ?_) | (refine CallC.mk (h1) (LeL.of_eq rfl) ?_) | (refine CallC.light (h1) (LeL.of_eq rfl) ?_) | (refine dw_ret ?_)); simp (decide := true) only [go_sem, reduceIte, reduceCtorEq, Nat.reduceEqDiff, Nat.reduceAdd, Nat.reduceMul, Nat.reduceSub, Nat.reduceLeDiff, Nat.reduceBEq, e0]) | (apply dw_cond; (simp (decide := true) only [go_sem, reduceIte, reduceCtorEq, Nat.reduceEqDiff, Nat.reduceAdd, Nat.reduceMul, Nat.reduceSub, Nat.reduceLeDiff, Nat.reduceBEq, e0]; rfl); all_goals (intro hcnd; first | (exact absurd hcnd (by decide)) | skip)) | ((first | refine guardC_f ?_ ?_ | refine guardC_t ?_ ?_) <;> (intro hcnd; simp (decide := true) only [go_sem, reduceIte, reduceCtorEq, Nat.reduceEqDiff, Nat.reduceAdd, Nat.reduceMul, Nat.reduceSub, Nat.reduceLeDiff, Nat.reduceBEq, hcnd, e0]))))
end Go.Proofs.YtfliennlinngeaaDoor
