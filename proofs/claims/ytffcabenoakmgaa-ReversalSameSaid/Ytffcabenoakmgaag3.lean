/- The logic of data over the kit's walk, and contracts of the functions that the law reaches, each said by plain data; part 4 of 6. -/
import Derived.Test.Ytffcabenoakmgaag2
set_option linter.all false
set_option linter.unusedVariables false
set_option linter.unusedSimpArgs false
/- Contracts of the reference: Build, Update. -/
namespace Go.Proofs.Ytffcabenoakmgaa
open Go.Dl
attribute [local irreducible] DW DCalls ECalls wk

def RowsOk (n : Nat) (l : List Row) : Prop := l.length ≤ n ∧ ∀ r ∈ l, r.senses.length ≤ n

theorem RowsOk.mono {n m : Nat} {l : List Row} (h : RowsOk n l) (hm : n ≤ m) : RowsOk m l := ⟨Nat.le_trans h.1 hm, fun r hr => Nat.le_trans (h.2 r hr) hm⟩

theorem ins_len (l : List Part) (p : Part) : (ins l p).length ≤ l.length + 1 := by
  have h1 : lows l p ≤ l.length := (List.takeWhile_prefix _).length_le
  unfold ins
  split <;> simp <;> omega

theorem atR_len (l : List Row) (g : ByteArray) {n : Nat} (h : RowsOk n l) : (atR l g).senses.length ≤ n := by
  unfold atR
  split
  · rename_i r hr
    split
    · exact h.2 r (List.mem_of_getElem? hr)
    · simp
  · simp

theorem putR_ok {n : Nat} {l : List Row} (h : RowsOk n l) (g : ByteArray) (p : Part) : RowsOk (n + 1) (putR l g p) := by
  have h1 : lowR l g ≤ l.length := (List.takeWhile_prefix _).length_le
  have h2 : lowR l g ≤ skipR l g := by unfold skipR; split <;> first | omega | (split <;> omega)
  refine ⟨?_, fun r hr => ?_⟩
  · have := h.1
    simp only [putR, List.length_append, List.length_take, List.length_cons, List.length_drop]
    omega
  · simp only [putR, List.mem_append, List.mem_cons] at hr
    rcases hr with hr | rfl | hr
    · exact Nat.le_succ_of_le (h.2 r (List.mem_of_mem_take hr))
    · exact Nat.le_trans (ins_len _ _) (Nat.succ_le_succ (atR_len l g h))
    · exact Nat.le_succ_of_le (h.2 r (List.mem_of_mem_drop hr))

theorem takeR_ok {n : Nat} {l : List Row} (h : RowsOk n l) (g : ByteArray) (p : Part) : RowsOk n (takeR l g p) := by
  refine ⟨Nat.le_trans (takeR_len l g p) h.1, fun r hr => ?_⟩
  simp only [takeR, List.mem_filter, List.mem_map] at hr
  obtain ⟨⟨q, hq, rfl⟩, _⟩ := hr
  exact Nat.le_trans (keepP_len _ _ _) (h.2 q hq)

abbrev pt (id : Int) (k : Nat) : Part := ⟨id, 0, k⟩

def putsN (rows : List Row) (id : Int) (ss : List Sense) : Nat → List Row
  | 0 => rows
  | k + 1 => match ss[k]? with
    | some s => putR (putsN rows id ss k) s.gloss (pt id k)
    | none => putsN rows id ss k

def takesN (rows : List Row) (id : Int) (ss : List Sense) : Nat → List Row
  | 0 => rows
  | k + 1 => match ss[k]? with
    | some s => takeR (takesN rows id ss k) s.gloss (pt id k)
    | none => takesN rows id ss k

def buildN (l : List Entry) : Nat → List Row
  | 0 => []
  | k + 1 => match l[k]? with
    | some e => putsN (buildN l k) e.id e.senses e.senses.length
    | none => buildN l k

def buildR (l : List Entry) : List Row := buildN l l.length

def updateR (rows : List Row) (o n : Entry) : List Row :=
  let a := if 1 ≤ o.id then takesN rows o.id o.senses o.senses.length else rows
  if 1 ≤ n.id then putsN a n.id n.senses n.senses.length else a

theorem putsN_ok {n : Nat} {rows : List Row} (h : RowsOk n rows) (id : Int) (ss : List Sense) : ∀ k, RowsOk (n + k) (putsN rows id ss k)
  | 0 => h
  | k + 1 => by
    simp only [putsN]
    split
    · exact putR_ok (putsN_ok h id ss k) _ _
    · exact (putsN_ok h id ss k).mono (by omega)

theorem takesN_ok {n : Nat} {rows : List Row} (h : RowsOk n rows) (id : Int) (ss : List Sense) : ∀ k, RowsOk n (takesN rows id ss k)
  | 0 => h
  | k + 1 => by
    simp only [takesN]
    split
    · exact takeR_ok (takesN_ok h id ss k) _ _
    · exact takesN_ok h id ss k

theorem buildN_ok {l : List Entry} (hs : ∀ e ∈ l, e.senses.length ≤ 1000) : ∀ k, RowsOk (1000 * k) (buildN l k)
  | 0 => ⟨by simp [buildN], fun r hr => by simp [buildN] at hr⟩
  | k + 1 => by
    simp only [buildN]
    split
    · rename_i e he
      have := hs e (List.mem_of_getElem? he)
      exact (putsN_ok (buildN_ok hs k) _ _ _).mono (by omega)
    · exact (buildN_ok hs k).mono (by omega)

theorem part_enc (id : Int) (k : Nat) : (pt id k).enc = [li id, li 0, li k] := rfl

--F16
set_option maxRecDepth 10000 in
set_option maxHeartbeats 4000000 in
theorem build_D (l : List Entry) (hl : l.length ≤ 500) (hs : ∀ e ∈ l, e.senses.length ≤ 1000) : DCalls Try.prog 16 [dv (.sl 8 (l.map Entry.enc))] (dv (.sl 2 ((buildR l).map Row.enc))) := by
  have hmax : (1000000 : Nat) < maxLen := by simp [maxLen]
  refine dcalls (N := 41) (rs := [.tmp 2]) (by kernel_rfl) Try.func16 rfl rfl rfl (by simp) ?_
  (repeat (first | (refine dw_seq ?_) | (refine dw_block ?_) | ((first | (refine dw_reg (N := 41) rfl (by kernel_rfl) ?_) | (apply dw_drw (id := 8) (N := 41) [(0, .light), (1, .light), (2, .light), (3, .light), (4, .light), (5, .light), (6, .light), (7, .light), (8, .light), (9, .light), (10, .light), (11, .light), (12, .light), (13, .light), (14, .light), (15, .light), (16, .light), (17, .step), (18, .light)]; kernel_rfl; rfl; kernel_rfl; (repeat (first | exact Picks.nil | (apply Picks.cons; rfl)))) | (refine dw_skip ?_) | (refine dw_exit ?_)); simp (decide := true) only [go_sem, reduceIte, reduceCtorEq, Nat.reduceEqDiff, Nat.reduceAdd, Nat.reduceMul, Nat.reduceSub, Nat.reduceLeDiff, Nat.reduceBEq])))
  refine dw_loop_fam (fun k : Nat => kn 41 [(0, dv (.sl 8 (l.map Entry.enc))), (3, dv (.sl 2 ((buildN l k).map Row.enc))), (7, dv (li l.length)), (8, dv (li k))] noMem)
    (fun k => k ≤ l.length) (fun k => l.length - k) 0 (sub_kn rfl (by simp (decide := true) only [go_sem, reduceIte, reduceCtorEq, Nat.reduceEqDiff, Nat.reduceAdd, Nat.reduceMul, Nat.reduceSub, Nat.reduceLeDiff, Nat.reduceBEq, buildN]) (by simp [noMem])) (by omega) ?_
  intro k hk
  rcases Nat.lt_or_ge k l.length with hlt | hge
  · obtain ⟨x, hx1⟩ : ∃ x, l[k]? = some x := ⟨l[k], List.getElem?_eq_getElem hlt⟩
    have hd : decide ((k : Int) < (l.length : Int)) = true := by simpa using hlt
    have hw := wrap_succ k (by omega)
    have hxs := hs x (List.mem_of_getElem? hx1)
    have hok := buildN_ok hs k
    have hstep : buildN l (k + 1) = putsN (buildN l k) x.id x.senses x.senses.length := by simp only [buildN, hx1]
    (repeat (first | (refine dw_seq ?_) | (refine dw_block ?_) | ((first | (refine dw_reg (N := 41) rfl (by kernel_rfl) ?_) | (apply dw_drw (id := 8) (N := 41) [(0, .light), (1, .light), (2, .light), (3, .light), (4, .light), (5, .light), (6, .light), (7, .light), (8, .light), (9, .light), (10, .light), (11, .light), (12, .light), (13, .light), (14, .light), (15, .light), (16, .light), (17, .step), (18, .light)]; kernel_rfl; rfl; kernel_rfl; (repeat (first | exact Picks.nil | (apply Picks.cons; rfl)))) | (refine dw_skip ?_) | (refine dw_exit ?_)); simp (decide := true) only [go_sem, reduceIte, reduceCtorEq, Nat.reduceEqDiff, Nat.reduceAdd, Nat.reduceMul, Nat.reduceSub, Nat.reduceLeDiff, Nat.reduceBEq, hd])))
    apply dw_cond; (simp (decide := true) only [go_sem, reduceIte, reduceCtorEq, Nat.reduceEqDiff, Nat.reduceAdd, Nat.reduceMul, Nat.reduceSub, Nat.reduceLeDiff, Nat.reduceBEq]; rfl)
    · intro _
      (repeat (first | (refine dw_seq ?_) | (refine dw_block ?_) | ((first | (refine dw_reg (N := 41) rfl (by kernel_rfl) ?_) | (apply dw_drw (id := 8) (N := 41) [(0, .light), (1, .light), (2, .light), (3, .light), (4, .light), (5, .light), (6, .light), (7, .light), (8, .light), (9, .light), (10, .light), (11, .light), (12, .light), (13, .light), (14, .light), (15, .light), (16, .light), (17, .step), (18, .light)]; kernel_rfl; rfl; kernel_rfl; (repeat (first | exact Picks.nil | (apply Picks.cons; rfl)))) | (refine dw_skip ?_) | (refine dw_exit ?_)); simp (decide := true) only [go_sem, reduceIte, reduceCtorEq, Nat.reduceEqDiff, Nat.reduceAdd, Nat.reduceMul, Nat.reduceSub, Nat.reduceLeDiff, Nat.reduceBEq, hx1, Entry.enc])))
      refine dw_loop_fam (fun j : Nat => kn 41 [(0, dv (.sl 8 (l.map Entry.enc))), (3, dv (.sl 2 ((putsN (buildN l k) x.id x.senses j).map Row.enc))), (4, dv (li k)), (7, dv (li l.length)), (8, dv (li k)), (16, dv (li x.senses.length)), (17, dv (li j))] noMem)
        (fun j => j ≤ x.senses.length) (fun j => x.senses.length - j) 0 (sub_kn rfl (by simp (decide := true) only [go_sem, reduceIte, reduceCtorEq, Nat.reduceEqDiff, Nat.reduceAdd, Nat.reduceMul, Nat.reduceSub, Nat.reduceLeDiff, Nat.reduceBEq, putsN]) (by simp [noMem])) (by omega) ?_
      intro j hj
      rcases Nat.lt_or_ge j x.senses.length with hjlt | hjge
      · obtain ⟨y, hy1⟩ : ∃ y, x.senses[j]? = some y := ⟨x.senses[j], List.getElem?_eq_getElem hjlt⟩
        have hd2 : decide ((j : Int) < (x.senses.length : Int)) = true := by simpa using hjlt
        have hw2 := wrap_succ j (by omega)
        have hstep2 : putsN (buildN l k) x.id x.senses (j + 1) = putR (putsN (buildN l k) x.id x.senses j) y.gloss (pt x.id j) := by simp only [putsN, hy1]
        have hok2 := (putsN_ok hok x.id x.senses j).mono (show 1000 * k + j ≤ 1000000 by omega)
        (repeat (first | (refine dw_seq ?_) | (refine dw_block ?_) | ((first | (refine dw_reg (N := 41) rfl (by kernel_rfl) ?_) | (apply dw_drw (id := 8) (N := 41) [(0, .light), (1, .light), (2, .light), (3, .light), (4, .light), (5, .light), (6, .light), (7, .light), (8, .light), (9, .light), (10, .light), (11, .light), (12, .light), (13, .light), (14, .light), (15, .light), (16, .light), (17, .step), (18, .light)]; kernel_rfl; rfl; kernel_rfl; (repeat (first | exact Picks.nil | (apply Picks.cons; rfl)))) | (refine dw_skip ?_) | (refine dw_exit ?_)); simp (decide := true) only [go_sem, reduceIte, reduceCtorEq, Nat.reduceEqDiff, Nat.reduceAdd, Nat.reduceMul, Nat.reduceSub, Nat.reduceLeDiff, Nat.reduceBEq, hd2])))
        apply dw_cond; (simp (decide := true) only [go_sem, reduceIte, reduceCtorEq, Nat.reduceEqDiff, Nat.reduceAdd, Nat.reduceMul, Nat.reduceSub, Nat.reduceLeDiff, Nat.reduceBEq]; rfl)
        · intro _
          (repeat (first | (refine dw_seq ?_) | (refine dw_block ?_) | ((first | (refine dw_reg (N := 41) rfl (by kernel_rfl) ?_) | (apply dw_drw (id := 8) (N := 41) [(0, .light), (1, .light), (2, .light), (3, .light), (4, .light), (5, .light), (6, .light), (7, .light), (8, .light), (9, .light), (10, .light), (11, .light), (12, .light), (13, .light), (14, .light), (15, .light), (16, .light), (17, .step), (18, .light)]; kernel_rfl; rfl; kernel_rfl; (repeat (first | exact Picks.nil | (apply Picks.cons; rfl)))) | (refine dw_skip ?_) | (refine dw_exit ?_)); simp (decide := true) only [go_sem, reduceIte, reduceCtorEq, Nat.reduceEqDiff, Nat.reduceAdd, Nat.reduceMul, Nat.reduceSub, Nat.reduceLeDiff, Nat.reduceBEq, hx1, hy1, Entry.enc, Sense.enc])))
          (first | (refine CallC.mk (put_D (putsN (buildN l k) x.id x.senses j) y.gloss (pt x.id j) hok2.1 hok2.2) (LeL.of_eq rfl) ?_) | (refine CallC.light (put_D (putsN (buildN l k) x.id x.senses j) y.gloss (pt x.id j) hok2.1 hok2.2) (LeL.of_eq rfl) ?_)); simp (decide := true) only [go_sem, reduceIte, reduceCtorEq, Nat.reduceEqDiff, Nat.reduceAdd, Nat.reduceMul, Nat.reduceSub, Nat.reduceLeDiff, Nat.reduceBEq]
          (repeat (first | (refine dw_seq ?_) | (refine dw_block ?_) | ((first | (refine dw_reg (N := 41) rfl (by kernel_rfl) ?_) | (apply dw_drw (id := 8) (N := 41) [(0, .light), (1, .light), (2, .light), (3, .light), (4, .light), (5, .light), (6, .light), (7, .light), (8, .light), (9, .light), (10, .light), (11, .light), (12, .light), (13, .light), (14, .light), (15, .light), (16, .light), (17, .step), (18, .light)]; kernel_rfl; rfl; kernel_rfl; (repeat (first | exact Picks.nil | (apply Picks.cons; rfl)))) | (refine dw_skip ?_) | (refine dw_exit ?_)); simp (decide := true) only [go_sem, reduceIte, reduceCtorEq, Nat.reduceEqDiff, Nat.reduceAdd, Nat.reduceMul, Nat.reduceSub, Nat.reduceLeDiff, Nat.reduceBEq, hw2])))
          exact ⟨j + 1, by omega, by omega, sub_kn rfl (by simp (decide := true) only [go_sem, reduceIte, reduceCtorEq, Nat.reduceEqDiff, Nat.reduceAdd, Nat.reduceMul, Nat.reduceSub, Nat.reduceLeDiff, Nat.reduceBEq, hstep2]) (by simp [noMem])⟩
        · simp
      · have hd2 : decide ((j : Int) < (x.senses.length : Int)) = false := by simpa using hjge
        have hjl : j = x.senses.length := by omega
        subst hjl
        (repeat (first | (refine dw_seq ?_) | (refine dw_block ?_) | ((first | (refine dw_reg (N := 41) rfl (by kernel_rfl) ?_) | (apply dw_drw (id := 8) (N := 41) [(0, .light), (1, .light), (2, .light), (3, .light), (4, .light), (5, .light), (6, .light), (7, .light), (8, .light), (9, .light), (10, .light), (11, .light), (12, .light), (13, .light), (14, .light), (15, .light), (16, .light), (17, .step), (18, .light)]; kernel_rfl; rfl; kernel_rfl; (repeat (first | exact Picks.nil | (apply Picks.cons; rfl)))) | (refine dw_skip ?_) | (refine dw_exit ?_)); simp (decide := true) only [go_sem, reduceIte, reduceCtorEq, Nat.reduceEqDiff, Nat.reduceAdd, Nat.reduceMul, Nat.reduceSub, Nat.reduceLeDiff, Nat.reduceBEq, hd2])))
        apply dw_cond; (simp (decide := true) only [go_sem, reduceIte, reduceCtorEq, Nat.reduceEqDiff, Nat.reduceAdd, Nat.reduceMul, Nat.reduceSub, Nat.reduceLeDiff, Nat.reduceBEq]; rfl)
        · simp
        intro _
        (repeat (first | (refine dw_seq ?_) | (refine dw_block ?_) | ((first | (refine dw_reg (N := 41) rfl (by kernel_rfl) ?_) | (apply dw_drw (id := 8) (N := 41) [(0, .light), (1, .light), (2, .light), (3, .light), (4, .light), (5, .light), (6, .light), (7, .light), (8, .light), (9, .light), (10, .light), (11, .light), (12, .light), (13, .light), (14, .light), (15, .light), (16, .light), (17, .step), (18, .light)]; kernel_rfl; rfl; kernel_rfl; (repeat (first | exact Picks.nil | (apply Picks.cons; rfl)))) | (refine dw_skip ?_) | (refine dw_exit ?_)); simp (decide := true) only [go_sem, reduceIte, reduceCtorEq, Nat.reduceEqDiff, Nat.reduceAdd, Nat.reduceMul, Nat.reduceSub, Nat.reduceLeDiff, Nat.reduceBEq, hw])))
        exact ⟨k + 1, by omega, by omega, sub_kn rfl (by simp (decide := true) only [go_sem, reduceIte, reduceCtorEq, Nat.reduceEqDiff, Nat.reduceAdd, Nat.reduceMul, Nat.reduceSub, Nat.reduceLeDiff, Nat.reduceBEq, hstep]) (by simp [noMem])⟩
    · simp
  · have hd : decide ((k : Int) < (l.length : Int)) = false := by simpa using hge
    have hkl : k = l.length := by omega
    subst hkl
    (repeat (first | (refine dw_seq ?_) | (refine dw_block ?_) | ((first | (refine dw_reg (N := 41) rfl (by kernel_rfl) ?_) | (apply dw_drw (id := 8) (N := 41) [(0, .light), (1, .light), (2, .light), (3, .light), (4, .light), (5, .light), (6, .light), (7, .light), (8, .light), (9, .light), (10, .light), (11, .light), (12, .light), (13, .light), (14, .light), (15, .light), (16, .light), (17, .step), (18, .light)]; kernel_rfl; rfl; kernel_rfl; (repeat (first | exact Picks.nil | (apply Picks.cons; rfl)))) | (refine dw_skip ?_) | (refine dw_exit ?_)); simp (decide := true) only [go_sem, reduceIte, reduceCtorEq, Nat.reduceEqDiff, Nat.reduceAdd, Nat.reduceMul, Nat.reduceSub, Nat.reduceLeDiff, Nat.reduceBEq, hd])))
    apply dw_cond; (simp (decide := true) only [go_sem, reduceIte, reduceCtorEq, Nat.reduceEqDiff, Nat.reduceAdd, Nat.reduceMul, Nat.reduceSub, Nat.reduceLeDiff, Nat.reduceBEq]; rfl)
    · simp
    intro _
    (repeat (first | (refine dw_seq ?_) | (refine dw_block ?_) | ((first | (refine dw_reg (N := 41) rfl (by kernel_rfl) ?_) | (apply dw_drw (id := 8) (N := 41) [(0, .light), (1, .light), (2, .light), (3, .light), (4, .light), (5, .light), (6, .light), (7, .light), (8, .light), (9, .light), (10, .light), (11, .light), (12, .light), (13, .light), (14, .light), (15, .light), (16, .light), (17, .step), (18, .light)]; kernel_rfl; rfl; kernel_rfl; (repeat (first | exact Picks.nil | (apply Picks.cons; rfl)))) | (refine dw_skip ?_) | (refine dw_exit ?_)); simp (decide := true) only [go_sem, reduceIte, reduceCtorEq, Nat.reduceEqDiff, Nat.reduceAdd, Nat.reduceMul, Nat.reduceSub, Nat.reduceLeDiff, Nat.reduceBEq])))
    refine dw_ret ?_; simp (decide := true) only [go_sem, reduceIte, reduceCtorEq, Nat.reduceEqDiff, Nat.reduceAdd, Nat.reduceMul, Nat.reduceSub, Nat.reduceLeDiff, Nat.reduceBEq]
    rfl

--F25
set_option maxRecDepth 10000 in
set_option maxHeartbeats 4000000 in
theorem update_D (rows : List Row) (o n : Entry) (hr : RowsOk 100000 rows) (ho : o.senses.length ≤ 1000) (hn : n.senses.length ≤ 1000) :
    DCalls Try.prog 25 [dv (.sl 2 (rows.map Row.enc)), .agg (o.enc.map T.c), .agg (n.enc.map T.c)] (dv (.sl 2 ((updateR rows o n).map Row.enc))) := by
  have hmax : (1000000 : Nat) < maxLen := by simp [maxLen]
  let A : Nat → List Row := fun k => if 1 ≤ o.id then takesN rows o.id o.senses k else rows
  have hA0 : A 0 = rows := by simp [A, takesN]
  have hAok : ∀ k, RowsOk 100000 (A k) := fun k => by
    simp only [A]; split
    · exact takesN_ok hr _ _ _
    · exact hr
  let B : Nat → List Row := fun k => if 1 ≤ n.id then putsN (A o.senses.length) n.id n.senses k else A o.senses.length
  have hB0 : B 0 = A o.senses.length := by simp [B, putsN]
  have hBok : ∀ k, RowsOk (100000 + k) (B k) := fun k => by
    simp only [B]; split
    · exact putsN_ok (hAok _) _ _ _
    · exact (hAok _).mono (by omega)
  have hfin : updateR rows o n = B n.senses.length := rfl
  refine dcalls (N := 54) (rs := [.tmp 6]) (by kernel_rfl) Try.func25 rfl rfl rfl (by simp) ?_
  (repeat (first | (refine dw_seq ?_) | (refine dw_block ?_) | ((first | (refine dw_reg (N := 54) rfl (by kernel_rfl) ?_) | (apply dw_drw (id := 5) (N := 54) [(0, .light), (1, .light), (2, .light), (3, .light), (4, .light), (5, .light), (6, .light), (7, .light), (8, .light), (9, .light), (10, .light), (11, .step), (12, .light)]; kernel_rfl; rfl; kernel_rfl; (repeat (first | exact Picks.nil | (apply Picks.cons; rfl)))) | (apply dw_drw (id := 11) (N := 54) [(0, .light), (1, .light), (2, .light), (3, .light), (4, .light), (5, .light), (6, .light), (7, .light), (8, .light), (9, .light), (10, .light), (11, .step), (12, .light)]; kernel_rfl; rfl; kernel_rfl; (repeat (first | exact Picks.nil | (apply Picks.cons; rfl)))) | (refine dw_skip ?_) | (refine dw_exit ?_)); simp (decide := true) only [go_sem, reduceIte, reduceCtorEq, Nat.reduceEqDiff, Nat.reduceAdd, Nat.reduceMul, Nat.reduceSub, Nat.reduceLeDiff, Nat.reduceBEq, Entry.enc])))
  refine dw_loop_fam (fun k : Nat => kn 54 [(0, dv (.sl 2 ((A k).map Row.enc))), (4, .one (.bx 4 8 0 0)), (5, .one (.bx 5 8 0 0)), (11, dv (li o.senses.length)), (12, dv (li k))] (ml [(4, [o.enc.map T.c]), (5, [n.enc.map T.c])]))
    (fun k => k ≤ o.senses.length) (fun k => o.senses.length - k) 0 (sub_ml rfl (by simp (decide := true) only [go_sem, reduceIte, reduceCtorEq, Nat.reduceEqDiff, Nat.reduceAdd, Nat.reduceMul, Nat.reduceSub, Nat.reduceLeDiff, Nat.reduceBEq, hA0]) (by simp (decide := true) only [go_sem, reduceIte, reduceCtorEq, Nat.reduceEqDiff, Nat.reduceAdd, Nat.reduceMul, Nat.reduceSub, Nat.reduceLeDiff, Nat.reduceBEq, Entry.enc])) (by omega) ?_
  intro k hk
  rcases Nat.lt_or_ge k o.senses.length with hlt | hge
  · obtain ⟨y, hy1⟩ : ∃ y, o.senses[k]? = some y := ⟨o.senses[k], List.getElem?_eq_getElem hlt⟩
    have hd : decide ((k : Int) < (o.senses.length : Int)) = true := by simpa using hlt
    have hw := wrap_succ k (by omega)
    (repeat (first | (refine dw_seq ?_) | (refine dw_block ?_) | ((first | (refine dw_reg (N := 54) rfl (by kernel_rfl) ?_) | (apply dw_drw (id := 5) (N := 54) [(0, .light), (1, .light), (2, .light), (3, .light), (4, .light), (5, .light), (6, .light), (7, .light), (8, .light), (9, .light), (10, .light), (11, .step), (12, .light)]; kernel_rfl; rfl; kernel_rfl; (repeat (first | exact Picks.nil | (apply Picks.cons; rfl)))) | (apply dw_drw (id := 11) (N := 54) [(0, .light), (1, .light), (2, .light), (3, .light), (4, .light), (5, .light), (6, .light), (7, .light), (8, .light), (9, .light), (10, .light), (11, .step), (12, .light)]; kernel_rfl; rfl; kernel_rfl; (repeat (first | exact Picks.nil | (apply Picks.cons; rfl)))) | (refine dw_skip ?_) | (refine dw_exit ?_)); simp (decide := true) only [go_sem, reduceIte, reduceCtorEq, Nat.reduceEqDiff, Nat.reduceAdd, Nat.reduceMul, Nat.reduceSub, Nat.reduceLeDiff, Nat.reduceBEq, hd])))
    apply dw_cond; (simp (decide := true) only [go_sem, reduceIte, reduceCtorEq, Nat.reduceEqDiff, Nat.reduceAdd, Nat.reduceMul, Nat.reduceSub, Nat.reduceLeDiff, Nat.reduceBEq]; rfl)
    · intro _
      (repeat (first | (refine dw_seq ?_) | (refine dw_block ?_) | ((first | (refine dw_reg (N := 54) rfl (by kernel_rfl) ?_) | (apply dw_drw (id := 5) (N := 54) [(0, .light), (1, .light), (2, .light), (3, .light), (4, .light), (5, .light), (6, .light), (7, .light), (8, .light), (9, .light), (10, .light), (11, .step), (12, .light)]; kernel_rfl; rfl; kernel_rfl; (repeat (first | exact Picks.nil | (apply Picks.cons; rfl)))) | (apply dw_drw (id := 11) (N := 54) [(0, .light), (1, .light), (2, .light), (3, .light), (4, .light), (5, .light), (6, .light), (7, .light), (8, .light), (9, .light), (10, .light), (11, .step), (12, .light)]; kernel_rfl; rfl; kernel_rfl; (repeat (first | exact Picks.nil | (apply Picks.cons; rfl)))) | (refine dw_skip ?_) | (refine dw_exit ?_)); simp (decide := true) only [go_sem, reduceIte, reduceCtorEq, Nat.reduceEqDiff, Nat.reduceAdd, Nat.reduceMul, Nat.reduceSub, Nat.reduceLeDiff, Nat.reduceBEq, Entry.enc])))
      apply dw_cond; (simp (decide := true) only [go_sem, reduceIte, reduceCtorEq, Nat.reduceEqDiff, Nat.reduceAdd, Nat.reduceMul, Nat.reduceSub, Nat.reduceLeDiff, Nat.reduceBEq]; rfl)
      · intro h3
        have h4 : 1 ≤ o.id := by simpa using h3
        have hstep : A (k + 1) = takeR (A k) y.gloss (pt o.id k) := by simp only [A, if_pos h4, takesN, hy1]
        have hok2 := (hAok k).mono (show 100000 ≤ 1000000 by omega)
        (repeat (first | (refine dw_seq ?_) | (refine dw_block ?_) | ((first | (refine dw_reg (N := 54) rfl (by kernel_rfl) ?_) | (apply dw_drw (id := 5) (N := 54) [(0, .light), (1, .light), (2, .light), (3, .light), (4, .light), (5, .light), (6, .light), (7, .light), (8, .light), (9, .light), (10, .light), (11, .step), (12, .light)]; kernel_rfl; rfl; kernel_rfl; (repeat (first | exact Picks.nil | (apply Picks.cons; rfl)))) | (apply dw_drw (id := 11) (N := 54) [(0, .light), (1, .light), (2, .light), (3, .light), (4, .light), (5, .light), (6, .light), (7, .light), (8, .light), (9, .light), (10, .light), (11, .step), (12, .light)]; kernel_rfl; rfl; kernel_rfl; (repeat (first | exact Picks.nil | (apply Picks.cons; rfl)))) | (refine dw_skip ?_) | (refine dw_exit ?_)); simp (decide := true) only [go_sem, reduceIte, reduceCtorEq, Nat.reduceEqDiff, Nat.reduceAdd, Nat.reduceMul, Nat.reduceSub, Nat.reduceLeDiff, Nat.reduceBEq, hy1, Entry.enc, Sense.enc])))
        (first | (refine CallC.mk (take_D (A k) y.gloss (pt o.id k) hok2.1 hok2.2) (LeL.of_eq rfl) ?_) | (refine CallC.light (take_D (A k) y.gloss (pt o.id k) hok2.1 hok2.2) (LeL.of_eq rfl) ?_)); simp (decide := true) only [go_sem, reduceIte, reduceCtorEq, Nat.reduceEqDiff, Nat.reduceAdd, Nat.reduceMul, Nat.reduceSub, Nat.reduceLeDiff, Nat.reduceBEq]
        (repeat (first | (refine dw_seq ?_) | (refine dw_block ?_) | ((first | (refine dw_reg (N := 54) rfl (by kernel_rfl) ?_) | (apply dw_drw (id := 5) (N := 54) [(0, .light), (1, .light), (2, .light), (3, .light), (4, .light), (5, .light), (6, .light), (7, .light), (8, .light), (9, .light), (10, .light), (11, .step), (12, .light)]; kernel_rfl; rfl; kernel_rfl; (repeat (first | exact Picks.nil | (apply Picks.cons; rfl)))) | (apply dw_drw (id := 11) (N := 54) [(0, .light), (1, .light), (2, .light), (3, .light), (4, .light), (5, .light), (6, .light), (7, .light), (8, .light), (9, .light), (10, .light), (11, .step), (12, .light)]; kernel_rfl; rfl; kernel_rfl; (repeat (first | exact Picks.nil | (apply Picks.cons; rfl)))) | (refine dw_skip ?_) | (refine dw_exit ?_)); simp (decide := true) only [go_sem, reduceIte, reduceCtorEq, Nat.reduceEqDiff, Nat.reduceAdd, Nat.reduceMul, Nat.reduceSub, Nat.reduceLeDiff, Nat.reduceBEq, hw])))
        exact ⟨k + 1, by omega, by omega, sub_ml rfl (by simp (decide := true) only [go_sem, reduceIte, reduceCtorEq, Nat.reduceEqDiff, Nat.reduceAdd, Nat.reduceMul, Nat.reduceSub, Nat.reduceLeDiff, Nat.reduceBEq, hstep]) (by simp (decide := true) only [go_sem, reduceIte, reduceCtorEq, Nat.reduceEqDiff, Nat.reduceAdd, Nat.reduceMul, Nat.reduceSub, Nat.reduceLeDiff, Nat.reduceBEq, Entry.enc])⟩
      · intro h3
        have h4 : ¬ 1 ≤ o.id := by simpa using h3
        have hstep : A (k + 1) = A k := by simp only [A, if_neg h4]
        (repeat (first | (refine dw_seq ?_) | (refine dw_block ?_) | ((first | (refine dw_reg (N := 54) rfl (by kernel_rfl) ?_) | (apply dw_drw (id := 5) (N := 54) [(0, .light), (1, .light), (2, .light), (3, .light), (4, .light), (5, .light), (6, .light), (7, .light), (8, .light), (9, .light), (10, .light), (11, .step), (12, .light)]; kernel_rfl; rfl; kernel_rfl; (repeat (first | exact Picks.nil | (apply Picks.cons; rfl)))) | (apply dw_drw (id := 11) (N := 54) [(0, .light), (1, .light), (2, .light), (3, .light), (4, .light), (5, .light), (6, .light), (7, .light), (8, .light), (9, .light), (10, .light), (11, .step), (12, .light)]; kernel_rfl; rfl; kernel_rfl; (repeat (first | exact Picks.nil | (apply Picks.cons; rfl)))) | (refine dw_skip ?_) | (refine dw_exit ?_)); simp (decide := true) only [go_sem, reduceIte, reduceCtorEq, Nat.reduceEqDiff, Nat.reduceAdd, Nat.reduceMul, Nat.reduceSub, Nat.reduceLeDiff, Nat.reduceBEq, hw])))
        exact ⟨k + 1, by omega, by omega, sub_ml rfl (by simp (decide := true) only [go_sem, reduceIte, reduceCtorEq, Nat.reduceEqDiff, Nat.reduceAdd, Nat.reduceMul, Nat.reduceSub, Nat.reduceLeDiff, Nat.reduceBEq, hstep]) (by simp (decide := true) only [go_sem, reduceIte, reduceCtorEq, Nat.reduceEqDiff, Nat.reduceAdd, Nat.reduceMul, Nat.reduceSub, Nat.reduceLeDiff, Nat.reduceBEq, Entry.enc])⟩
    · simp
  · have hd : decide ((k : Int) < (o.senses.length : Int)) = false := by simpa using hge
    have hkl : k = o.senses.length := by omega
    subst hkl
    (repeat (first | (refine dw_seq ?_) | (refine dw_block ?_) | ((first | (refine dw_reg (N := 54) rfl (by kernel_rfl) ?_) | (apply dw_drw (id := 5) (N := 54) [(0, .light), (1, .light), (2, .light), (3, .light), (4, .light), (5, .light), (6, .light), (7, .light), (8, .light), (9, .light), (10, .light), (11, .step), (12, .light)]; kernel_rfl; rfl; kernel_rfl; (repeat (first | exact Picks.nil | (apply Picks.cons; rfl)))) | (apply dw_drw (id := 11) (N := 54) [(0, .light), (1, .light), (2, .light), (3, .light), (4, .light), (5, .light), (6, .light), (7, .light), (8, .light), (9, .light), (10, .light), (11, .step), (12, .light)]; kernel_rfl; rfl; kernel_rfl; (repeat (first | exact Picks.nil | (apply Picks.cons; rfl)))) | (refine dw_skip ?_) | (refine dw_exit ?_)); simp (decide := true) only [go_sem, reduceIte, reduceCtorEq, Nat.reduceEqDiff, Nat.reduceAdd, Nat.reduceMul, Nat.reduceSub, Nat.reduceLeDiff, Nat.reduceBEq, hd])))
    apply dw_cond; (simp (decide := true) only [go_sem, reduceIte, reduceCtorEq, Nat.reduceEqDiff, Nat.reduceAdd, Nat.reduceMul, Nat.reduceSub, Nat.reduceLeDiff, Nat.reduceBEq]; rfl)
    · simp
    intro _
    (repeat (first | (refine dw_seq ?_) | (refine dw_block ?_) | ((first | (refine dw_reg (N := 54) rfl (by kernel_rfl) ?_) | (apply dw_drw (id := 5) (N := 54) [(0, .light), (1, .light), (2, .light), (3, .light), (4, .light), (5, .light), (6, .light), (7, .light), (8, .light), (9, .light), (10, .light), (11, .step), (12, .light)]; kernel_rfl; rfl; kernel_rfl; (repeat (first | exact Picks.nil | (apply Picks.cons; rfl)))) | (apply dw_drw (id := 11) (N := 54) [(0, .light), (1, .light), (2, .light), (3, .light), (4, .light), (5, .light), (6, .light), (7, .light), (8, .light), (9, .light), (10, .light), (11, .step), (12, .light)]; kernel_rfl; rfl; kernel_rfl; (repeat (first | exact Picks.nil | (apply Picks.cons; rfl)))) | (refine dw_skip ?_) | (refine dw_exit ?_)); simp (decide := true) only [go_sem, reduceIte, reduceCtorEq, Nat.reduceEqDiff, Nat.reduceAdd, Nat.reduceMul, Nat.reduceSub, Nat.reduceLeDiff, Nat.reduceBEq, Entry.enc])))
    refine dw_loop_fam (fun k : Nat => kn 54 [(0, dv (.sl 2 ((B k).map Row.enc))), (5, .one (.bx 5 8 0 0)), (33, dv (li n.senses.length)), (34, dv (li k))] (ml [(5, [n.enc.map T.c])]))
      (fun k => k ≤ n.senses.length) (fun k => n.senses.length - k) 0 (sub_ml rfl (by simp (decide := true) only [go_sem, reduceIte, reduceCtorEq, Nat.reduceEqDiff, Nat.reduceAdd, Nat.reduceMul, Nat.reduceSub, Nat.reduceLeDiff, Nat.reduceBEq, hB0]) (by simp (decide := true) only [go_sem, reduceIte, reduceCtorEq, Nat.reduceEqDiff, Nat.reduceAdd, Nat.reduceMul, Nat.reduceSub, Nat.reduceLeDiff, Nat.reduceBEq, Entry.enc])) (by omega) ?_
    intro k hk
    rcases Nat.lt_or_ge k n.senses.length with hlt | hge
    · obtain ⟨y, hy1⟩ : ∃ y, n.senses[k]? = some y := ⟨n.senses[k], List.getElem?_eq_getElem hlt⟩
      have hd : decide ((k : Int) < (n.senses.length : Int)) = true := by simpa using hlt
      have hw := wrap_succ k (by omega)
      (repeat (first | (refine dw_seq ?_) | (refine dw_block ?_) | ((first | (refine dw_reg (N := 54) rfl (by kernel_rfl) ?_) | (apply dw_drw (id := 5) (N := 54) [(0, .light), (1, .light), (2, .light), (3, .light), (4, .light), (5, .light), (6, .light), (7, .light), (8, .light), (9, .light), (10, .light), (11, .step), (12, .light)]; kernel_rfl; rfl; kernel_rfl; (repeat (first | exact Picks.nil | (apply Picks.cons; rfl)))) | (apply dw_drw (id := 11) (N := 54) [(0, .light), (1, .light), (2, .light), (3, .light), (4, .light), (5, .light), (6, .light), (7, .light), (8, .light), (9, .light), (10, .light), (11, .step), (12, .light)]; kernel_rfl; rfl; kernel_rfl; (repeat (first | exact Picks.nil | (apply Picks.cons; rfl)))) | (refine dw_skip ?_) | (refine dw_exit ?_)); simp (decide := true) only [go_sem, reduceIte, reduceCtorEq, Nat.reduceEqDiff, Nat.reduceAdd, Nat.reduceMul, Nat.reduceSub, Nat.reduceLeDiff, Nat.reduceBEq, hd])))
      apply dw_cond; (simp (decide := true) only [go_sem, reduceIte, reduceCtorEq, Nat.reduceEqDiff, Nat.reduceAdd, Nat.reduceMul, Nat.reduceSub, Nat.reduceLeDiff, Nat.reduceBEq]; rfl)
      · intro _
        (repeat (first | (refine dw_seq ?_) | (refine dw_block ?_) | ((first | (refine dw_reg (N := 54) rfl (by kernel_rfl) ?_) | (apply dw_drw (id := 5) (N := 54) [(0, .light), (1, .light), (2, .light), (3, .light), (4, .light), (5, .light), (6, .light), (7, .light), (8, .light), (9, .light), (10, .light), (11, .step), (12, .light)]; kernel_rfl; rfl; kernel_rfl; (repeat (first | exact Picks.nil | (apply Picks.cons; rfl)))) | (apply dw_drw (id := 11) (N := 54) [(0, .light), (1, .light), (2, .light), (3, .light), (4, .light), (5, .light), (6, .light), (7, .light), (8, .light), (9, .light), (10, .light), (11, .step), (12, .light)]; kernel_rfl; rfl; kernel_rfl; (repeat (first | exact Picks.nil | (apply Picks.cons; rfl)))) | (refine dw_skip ?_) | (refine dw_exit ?_)); simp (decide := true) only [go_sem, reduceIte, reduceCtorEq, Nat.reduceEqDiff, Nat.reduceAdd, Nat.reduceMul, Nat.reduceSub, Nat.reduceLeDiff, Nat.reduceBEq, Entry.enc])))
        apply dw_cond; (simp (decide := true) only [go_sem, reduceIte, reduceCtorEq, Nat.reduceEqDiff, Nat.reduceAdd, Nat.reduceMul, Nat.reduceSub, Nat.reduceLeDiff, Nat.reduceBEq]; rfl)
        · intro h3
          have h4 : 1 ≤ n.id := by simpa using h3
          have hstep : B (k + 1) = putR (B k) y.gloss (pt n.id k) := by simp only [B, if_pos h4, putsN, hy1]
          have hok2 := (hBok k).mono (show 100000 + k ≤ 1000000 by omega)
          (repeat (first | (refine dw_seq ?_) | (refine dw_block ?_) | ((first | (refine dw_reg (N := 54) rfl (by kernel_rfl) ?_) | (apply dw_drw (id := 5) (N := 54) [(0, .light), (1, .light), (2, .light), (3, .light), (4, .light), (5, .light), (6, .light), (7, .light), (8, .light), (9, .light), (10, .light), (11, .step), (12, .light)]; kernel_rfl; rfl; kernel_rfl; (repeat (first | exact Picks.nil | (apply Picks.cons; rfl)))) | (apply dw_drw (id := 11) (N := 54) [(0, .light), (1, .light), (2, .light), (3, .light), (4, .light), (5, .light), (6, .light), (7, .light), (8, .light), (9, .light), (10, .light), (11, .step), (12, .light)]; kernel_rfl; rfl; kernel_rfl; (repeat (first | exact Picks.nil | (apply Picks.cons; rfl)))) | (refine dw_skip ?_) | (refine dw_exit ?_)); simp (decide := true) only [go_sem, reduceIte, reduceCtorEq, Nat.reduceEqDiff, Nat.reduceAdd, Nat.reduceMul, Nat.reduceSub, Nat.reduceLeDiff, Nat.reduceBEq, hy1, Entry.enc, Sense.enc])))
          (first | (refine CallC.mk (put_D (B k) y.gloss (pt n.id k) hok2.1 hok2.2) (LeL.of_eq rfl) ?_) | (refine CallC.light (put_D (B k) y.gloss (pt n.id k) hok2.1 hok2.2) (LeL.of_eq rfl) ?_)); simp (decide := true) only [go_sem, reduceIte, reduceCtorEq, Nat.reduceEqDiff, Nat.reduceAdd, Nat.reduceMul, Nat.reduceSub, Nat.reduceLeDiff, Nat.reduceBEq]
          (repeat (first | (refine dw_seq ?_) | (refine dw_block ?_) | ((first | (refine dw_reg (N := 54) rfl (by kernel_rfl) ?_) | (apply dw_drw (id := 5) (N := 54) [(0, .light), (1, .light), (2, .light), (3, .light), (4, .light), (5, .light), (6, .light), (7, .light), (8, .light), (9, .light), (10, .light), (11, .step), (12, .light)]; kernel_rfl; rfl; kernel_rfl; (repeat (first | exact Picks.nil | (apply Picks.cons; rfl)))) | (apply dw_drw (id := 11) (N := 54) [(0, .light), (1, .light), (2, .light), (3, .light), (4, .light), (5, .light), (6, .light), (7, .light), (8, .light), (9, .light), (10, .light), (11, .step), (12, .light)]; kernel_rfl; rfl; kernel_rfl; (repeat (first | exact Picks.nil | (apply Picks.cons; rfl)))) | (refine dw_skip ?_) | (refine dw_exit ?_)); simp (decide := true) only [go_sem, reduceIte, reduceCtorEq, Nat.reduceEqDiff, Nat.reduceAdd, Nat.reduceMul, Nat.reduceSub, Nat.reduceLeDiff, Nat.reduceBEq, hw])))
          exact ⟨k + 1, by omega, by omega, sub_ml rfl (by simp (decide := true) only [go_sem, reduceIte, reduceCtorEq, Nat.reduceEqDiff, Nat.reduceAdd, Nat.reduceMul, Nat.reduceSub, Nat.reduceLeDiff, Nat.reduceBEq, hstep]) (by simp (decide := true) only [go_sem, reduceIte, reduceCtorEq, Nat.reduceEqDiff, Nat.reduceAdd, Nat.reduceMul, Nat.reduceSub, Nat.reduceLeDiff, Nat.reduceBEq, Entry.enc])⟩
        · intro h3
          have h4 : ¬ 1 ≤ n.id := by simpa using h3
          have hstep : B (k + 1) = B k := by simp only [B, if_neg h4]
          (repeat (first | (refine dw_seq ?_) | (refine dw_block ?_) | ((first | (refine dw_reg (N := 54) rfl (by kernel_rfl) ?_) | (apply dw_drw (id := 5) (N := 54) [(0, .light), (1, .light), (2, .light), (3, .light), (4, .light), (5, .light), (6, .light), (7, .light), (8, .light), (9, .light), (10, .light), (11, .step), (12, .light)]; kernel_rfl; rfl; kernel_rfl; (repeat (first | exact Picks.nil | (apply Picks.cons; rfl)))) | (apply dw_drw (id := 11) (N := 54) [(0, .light), (1, .light), (2, .light), (3, .light), (4, .light), (5, .light), (6, .light), (7, .light), (8, .light), (9, .light), (10, .light), (11, .step), (12, .light)]; kernel_rfl; rfl; kernel_rfl; (repeat (first | exact Picks.nil | (apply Picks.cons; rfl)))) | (refine dw_skip ?_) | (refine dw_exit ?_)); simp (decide := true) only [go_sem, reduceIte, reduceCtorEq, Nat.reduceEqDiff, Nat.reduceAdd, Nat.reduceMul, Nat.reduceSub, Nat.reduceLeDiff, Nat.reduceBEq, hw])))
          exact ⟨k + 1, by omega, by omega, sub_ml rfl (by simp (decide := true) only [go_sem, reduceIte, reduceCtorEq, Nat.reduceEqDiff, Nat.reduceAdd, Nat.reduceMul, Nat.reduceSub, Nat.reduceLeDiff, Nat.reduceBEq, hstep]) (by simp (decide := true) only [go_sem, reduceIte, reduceCtorEq, Nat.reduceEqDiff, Nat.reduceAdd, Nat.reduceMul, Nat.reduceSub, Nat.reduceLeDiff, Nat.reduceBEq, Entry.enc])⟩
      · simp
    · have hd : decide ((k : Int) < (n.senses.length : Int)) = false := by simpa using hge
      have hkl : k = n.senses.length := by omega
      subst hkl
      (repeat (first | (refine dw_seq ?_) | (refine dw_block ?_) | ((first | (refine dw_reg (N := 54) rfl (by kernel_rfl) ?_) | (apply dw_drw (id := 5) (N := 54) [(0, .light), (1, .light), (2, .light), (3, .light), (4, .light), (5, .light), (6, .light), (7, .light), (8, .light), (9, .light), (10, .light), (11, .step), (12, .light)]; kernel_rfl; rfl; kernel_rfl; (repeat (first | exact Picks.nil | (apply Picks.cons; rfl)))) | (apply dw_drw (id := 11) (N := 54) [(0, .light), (1, .light), (2, .light), (3, .light), (4, .light), (5, .light), (6, .light), (7, .light), (8, .light), (9, .light), (10, .light), (11, .step), (12, .light)]; kernel_rfl; rfl; kernel_rfl; (repeat (first | exact Picks.nil | (apply Picks.cons; rfl)))) | (refine dw_skip ?_) | (refine dw_exit ?_)); simp (decide := true) only [go_sem, reduceIte, reduceCtorEq, Nat.reduceEqDiff, Nat.reduceAdd, Nat.reduceMul, Nat.reduceSub, Nat.reduceLeDiff, Nat.reduceBEq, hd])))
      apply dw_cond; (simp (decide := true) only [go_sem, reduceIte, reduceCtorEq, Nat.reduceEqDiff, Nat.reduceAdd, Nat.reduceMul, Nat.reduceSub, Nat.reduceLeDiff, Nat.reduceBEq]; rfl)
      · simp
      intro _
      (repeat (first | (refine dw_seq ?_) | (refine dw_block ?_) | ((first | (refine dw_reg (N := 54) rfl (by kernel_rfl) ?_) | (apply dw_drw (id := 5) (N := 54) [(0, .light), (1, .light), (2, .light), (3, .light), (4, .light), (5, .light), (6, .light), (7, .light), (8, .light), (9, .light), (10, .light), (11, .step), (12, .light)]; kernel_rfl; rfl; kernel_rfl; (repeat (first | exact Picks.nil | (apply Picks.cons; rfl)))) | (apply dw_drw (id := 11) (N := 54) [(0, .light), (1, .light), (2, .light), (3, .light), (4, .light), (5, .light), (6, .light), (7, .light), (8, .light), (9, .light), (10, .light), (11, .step), (12, .light)]; kernel_rfl; rfl; kernel_rfl; (repeat (first | exact Picks.nil | (apply Picks.cons; rfl)))) | (refine dw_skip ?_) | (refine dw_exit ?_)); simp (decide := true) only [go_sem, reduceIte, reduceCtorEq, Nat.reduceEqDiff, Nat.reduceAdd, Nat.reduceMul, Nat.reduceSub, Nat.reduceLeDiff, Nat.reduceBEq])))
      refine dw_ret ?_; simp (decide := true) only [go_sem, reduceIte, reduceCtorEq, Nat.reduceEqDiff, Nat.reduceAdd, Nat.reduceMul, Nat.reduceSub, Nat.reduceLeDiff, Nat.reduceBEq, hfin]
end Go.Proofs.Ytffcabenoakmgaa

/- Contracts of slices.BinarySearchFunc, over memory of one's own. -/
namespace Go.Proofs.Ytffcabenoakmgaa
open Go.Dl
attribute [local irreducible] DW DCalls ECalls wk

/-- Memories by names that no slot takes. -/
def MemOk (H : Mem) : Prop := ∀ k r, H k = some r → 1000 ≤ k ∧ Dl.Rows.Mids r

theorem MemOk.tr {H : Mem} (h : MemOk H) {r : Ren} (hr : r.Keeps) (k : Nat) : (H k).map (Dl.Rows.tr r) = H k := by
  cases hk : H k with
  | none => rfl
  | some x => simp only [Option.map_some, Dl.Rows.tr_mids hr (h k x hk).2]

theorem MemOk.fgt {H : Mem} (h : MemOk H) {m : Nat} (hm : m < 1000) (k : Nat) : (H k).map (Dl.Rows.tr (fgt m)) = H k := h.tr (keeps_fgt (notmid hm)) k
theorem MemOk.cls {H : Mem} (h : MemOk H) {m : Nat} (hm : m < 1000) (k : Nat) : (H k).map (Dl.Rows.tr (cls [m])) = H k := h.tr (keeps_cls (by simpa using notmid hm)) k
theorem MemOk.low {H : Mem} (h : MemOk H) {k : Nat} (hk : k < 1000) : H k = none := by
  cases hc : H k with
  | none => rfl
  | some x => have := (h k x hc).1; omega

theorem beq_eq_dec (a b : Int) : (a == b) = decide (a = b) := rfl

/-- What a search may answer. -/
def BsOk (f : Nat → Int) (n i : Nat) : Prop := i ≤ n ∧ (0 < i → f (i - 1) < 0) ∧ (i < n → 0 ≤ f i)

theorem half_facts (i j : Nat) (h : i + j ≤ 2000000) : IntKind.i64.wrap ((i : Int) + (j : Int)) = ((i + j : Nat) : Int) ∧ IntKind.u64.wrap ((i + j : Nat) : Int) = ((i + j : Nat) : Int) ∧
    (((i + j : Nat) : Int).fdiv 2) = (((i + j) / 2 : Nat) : Int) ∧ IntKind.i64.wrap (((i + j) / 2 : Nat) : Int) = (((i + j) / 2 : Nat) : Int) := by
  refine ⟨by rw [wrap_i64 (by omega) (by omega)]; omega, ?_, ?_, by rw [wrap_i64 (by omega) (by omega)]⟩
  · rw [IntKind.wrap_u64]; omega
  · rw [Int.fdiv_eq_ediv_of_nonneg _ (by omega)]; omega

--F53
set_option maxRecDepth 10000 in
set_option maxHeartbeats 4000000 in
theorem bsP_E (n cap : Nat) (hn : 1000 ≤ n) (H : Mem) (hH : MemOk H) (rows : Dl.Rows) (hr : H n = some rows) (ps : List Part) (p : Part) (hps : ∀ (j : Nat) q, ps[j]? = some q → rows[j]? = some (q.enc.map T.c)) (hl : ps.length ≤ 1000000) :
    ECalls Try.prog 53 [.one (.ba n 3 0 ps.length cap), .agg (p.enc.map T.c), .one (.c (.fn 35 []))] H
      (fun r H' => (∃ i, BsOk (fun j => match ps[j]? with | some q => cmpP q p | none => 0) ps.length i ∧ r = .tup [dv (li i), dv (lb (decide (ps[i]?.map (fun q => cmpP q p) = some 0)))]) ∧ ∀ k, 1000 ≤ k → H' k = H k) := by
  have hmax : (1000000 : Nat) < maxLen := by simp [maxLen]
  have hne : ∀ k, k < 1000 → (n = k) = False := fun k hk => by simp; omega
  have hfg : ∀ (m k : Nat), m < 1000 → (H k).map (Dl.Rows.tr (fgt m)) = H k := fun m k hm => hH.fgt hm k
  refine ecalls (N := 49) (rs := [.tmp 6, .tmp 7]) (by kernel_rfl) Try.func53 rfl rfl rfl (by simp) ?_
  (repeat (first | (refine dw_seq ?_) | (refine dw_block ?_) | ((first | (refine dw_reg (N := 49) rfl (by kernel_rfl) ?_) | (apply dw_drw (id := 5) (N := 49) [(0, .light), (1, .light), (2, .light), (3, .light), (4, .light), (5, .light), (6, .step), (7, .light)]; kernel_rfl; rfl; kernel_rfl; (repeat (first | exact Picks.nil | (apply Picks.cons; rfl)))) | (apply dw_drw (id := 8) (N := 49) [(0, .light), (1, .light), (2, .light), (3, .light), (4, .light), (5, .light), (6, .light), (7, .light), (8, .light), (9, .light), (10, .light), (11, .light), (12, .light), (13, .light), (14, .light), (15, .light)]; kernel_rfl; rfl; kernel_rfl; (repeat (first | exact Picks.nil | (apply Picks.cons; rfl)))) | (refine dw_skip ?_) | (refine dw_exit ?_)); simp (decide := true) only [go_sem, reduceIte, reduceCtorEq, Nat.reduceEqDiff, Nat.reduceAdd, Nat.reduceMul, Nat.reduceSub, Nat.reduceLeDiff, Nat.reduceBEq, Part.enc, hne, hfg])))
  refine dw_loop_fam (fun x : Nat × Nat => kn 49 [(0, .one (.ba n 3 0 ps.length cap)), (2, .one (.c (.fn 35 []))), (4, .one (.bx 4 3 0 0)), (8, dv (li ps.length)), (9, dv (li x.1)), (10, dv (li x.2))] (fun k => if k = 4 then some [p.enc.map T.c] else H k))
    (fun x => x.1 ≤ x.2 ∧ x.2 ≤ ps.length ∧ (0 < x.1 → (match ps[x.1 - 1]? with | some q => cmpP q p | none => 0) < 0) ∧ (x.2 < ps.length → 0 ≤ (match ps[x.2]? with | some q => cmpP q p | none => 0))) (fun x => x.2 - x.1) (0, ps.length)
    ?_ ⟨by omega, by omega, by simp, by simp⟩ ?_
  · refine sub_kn rfl (by simp (decide := true) only [go_sem, reduceIte, reduceCtorEq, Nat.reduceEqDiff, Nat.reduceAdd, Nat.reduceMul, Nat.reduceSub, Nat.reduceLeDiff, Nat.reduceBEq, hne]) ?_
    intro k r hk
    simp (decide := true) only [go_sem, reduceIte, reduceCtorEq, Nat.reduceEqDiff, Nat.reduceAdd, Nat.reduceMul, Nat.reduceSub, Nat.reduceLeDiff, Nat.reduceBEq, hfg]
    by_cases h4 : k = 4
    · rw [if_pos h4] at hk ⊢; rw [← hk]; rfl
    · rw [if_neg h4] at hk ⊢; exact hk
  rintro ⟨i, j⟩ ⟨h1, h2, h3, h4⟩
  simp only at h1 h2 h3 h4
  obtain ⟨w1, w2, w3, w4⟩ := half_facts i j (by omega)
  rcases Nat.lt_or_ge i j with hlt | hge
  · have hd : decide ((i : Int) < (j : Int)) = true := by simpa using hlt
    have hhl : (i + j) / 2 < ps.length := by omega
    obtain ⟨q, hq1⟩ : ∃ q, ps[(i + j) / 2]? = some q := ⟨ps[(i + j) / 2], List.getElem?_eq_getElem hhl⟩
    have hq2 : rows[(i + j) / 2]? = some [.c (li q.entry), .c (li q.alt), .c (li q.sense)] := hps _ q hq1
    have hw := wrap_succ ((i + j) / 2) (by omega)
    (repeat (first | (refine dw_seq ?_) | (refine dw_block ?_) | ((first | (refine dw_reg (N := 49) rfl (by kernel_rfl) ?_) | (apply dw_drw (id := 5) (N := 49) [(0, .light), (1, .light), (2, .light), (3, .light), (4, .light), (5, .light), (6, .step), (7, .light)]; kernel_rfl; rfl; kernel_rfl; (repeat (first | exact Picks.nil | (apply Picks.cons; rfl)))) | (apply dw_drw (id := 8) (N := 49) [(0, .light), (1, .light), (2, .light), (3, .light), (4, .light), (5, .light), (6, .light), (7, .light), (8, .light), (9, .light), (10, .light), (11, .light), (12, .light), (13, .light), (14, .light), (15, .light)]; kernel_rfl; rfl; kernel_rfl; (repeat (first | exact Picks.nil | (apply Picks.cons; rfl)))) | (refine dw_skip ?_) | (refine dw_exit ?_)); simp (decide := true) only [go_sem, reduceIte, reduceCtorEq, Nat.reduceEqDiff, Nat.reduceAdd, Nat.reduceMul, Nat.reduceSub, Nat.reduceLeDiff, Nat.reduceBEq, hd, hne])))
    apply dw_cond; (simp (decide := true) only [go_sem, reduceIte, reduceCtorEq, Nat.reduceEqDiff, Nat.reduceAdd, Nat.reduceMul, Nat.reduceSub, Nat.reduceLeDiff, Nat.reduceBEq]; rfl)
    · intro _
      (repeat (first | (refine dw_seq ?_) | (refine dw_block ?_) | ((first | (refine dw_reg (N := 49) rfl (by kernel_rfl) ?_) | (apply dw_drw (id := 5) (N := 49) [(0, .light), (1, .light), (2, .light), (3, .light), (4, .light), (5, .light), (6, .step), (7, .light)]; kernel_rfl; rfl; kernel_rfl; (repeat (first | exact Picks.nil | (apply Picks.cons; rfl)))) | (apply dw_drw (id := 8) (N := 49) [(0, .light), (1, .light), (2, .light), (3, .light), (4, .light), (5, .light), (6, .light), (7, .light), (8, .light), (9, .light), (10, .light), (11, .light), (12, .light), (13, .light), (14, .light), (15, .light)]; kernel_rfl; rfl; kernel_rfl; (repeat (first | exact Picks.nil | (apply Picks.cons; rfl)))) | (refine dw_skip ?_) | (refine dw_exit ?_)); simp (decide := true) only [go_sem, reduceIte, reduceCtorEq, Nat.reduceEqDiff, Nat.reduceAdd, Nat.reduceMul, Nat.reduceSub, Nat.reduceLeDiff, Nat.reduceBEq, hne, w1, w2, w3, w4, hr, hq2, hhl, Part.enc])))
      (first | (refine CallC.mk (byPart_D q p) (LeL.of_eq rfl) ?_) | (refine CallC.light (byPart_D q p) (LeL.of_eq rfl) ?_)); simp (decide := true) only [go_sem, reduceIte, reduceCtorEq, Nat.reduceEqDiff, Nat.reduceAdd, Nat.reduceMul, Nat.reduceSub, Nat.reduceLeDiff, Nat.reduceBEq]
      apply dw_cond; (simp (decide := true) only [go_sem, reduceIte, reduceCtorEq, Nat.reduceEqDiff, Nat.reduceAdd, Nat.reduceMul, Nat.reduceSub, Nat.reduceLeDiff, Nat.reduceBEq]; rfl)
      · intro h5
        have h6 : cmpP q p < 0 := by simpa using h5
        (repeat (first | (refine dw_seq ?_) | (refine dw_block ?_) | ((first | (refine dw_reg (N := 49) rfl (by kernel_rfl) ?_) | (apply dw_drw (id := 5) (N := 49) [(0, .light), (1, .light), (2, .light), (3, .light), (4, .light), (5, .light), (6, .step), (7, .light)]; kernel_rfl; rfl; kernel_rfl; (repeat (first | exact Picks.nil | (apply Picks.cons; rfl)))) | (apply dw_drw (id := 8) (N := 49) [(0, .light), (1, .light), (2, .light), (3, .light), (4, .light), (5, .light), (6, .light), (7, .light), (8, .light), (9, .light), (10, .light), (11, .light), (12, .light), (13, .light), (14, .light), (15, .light)]; kernel_rfl; rfl; kernel_rfl; (repeat (first | exact Picks.nil | (apply Picks.cons; rfl)))) | (refine dw_skip ?_) | (refine dw_exit ?_)); simp (decide := true) only [go_sem, reduceIte, reduceCtorEq, Nat.reduceEqDiff, Nat.reduceAdd, Nat.reduceMul, Nat.reduceSub, Nat.reduceLeDiff, Nat.reduceBEq, hw])))
        refine ⟨((i + j) / 2 + 1, j), ⟨by simp only; omega, h2, fun _ => by simp only [Nat.add_sub_cancel, hq1]; exact h6, h4⟩, by simp only; omega, sub_kn rfl (by simp (decide := true) only [go_sem, reduceIte, reduceCtorEq, Nat.reduceEqDiff, Nat.reduceAdd, Nat.reduceMul, Nat.reduceSub, Nat.reduceLeDiff, Nat.reduceBEq]) (fun k r hk => ?_)⟩
        simp (decide := true) only [go_sem, reduceIte, reduceCtorEq, Nat.reduceEqDiff, Nat.reduceAdd, Nat.reduceMul, Nat.reduceSub, Nat.reduceLeDiff, Nat.reduceBEq]
        exact hk
      · intro h5
        have h6 : ¬ cmpP q p < 0 := by simpa using h5
        (repeat (first | (refine dw_seq ?_) | (refine dw_block ?_) | ((first | (refine dw_reg (N := 49) rfl (by kernel_rfl) ?_) | (apply dw_drw (id := 5) (N := 49) [(0, .light), (1, .light), (2, .light), (3, .light), (4, .light), (5, .light), (6, .step), (7, .light)]; kernel_rfl; rfl; kernel_rfl; (repeat (first | exact Picks.nil | (apply Picks.cons; rfl)))) | (apply dw_drw (id := 8) (N := 49) [(0, .light), (1, .light), (2, .light), (3, .light), (4, .light), (5, .light), (6, .light), (7, .light), (8, .light), (9, .light), (10, .light), (11, .light), (12, .light), (13, .light), (14, .light), (15, .light)]; kernel_rfl; rfl; kernel_rfl; (repeat (first | exact Picks.nil | (apply Picks.cons; rfl)))) | (refine dw_skip ?_) | (refine dw_exit ?_)); simp (decide := true) only [go_sem, reduceIte, reduceCtorEq, Nat.reduceEqDiff, Nat.reduceAdd, Nat.reduceMul, Nat.reduceSub, Nat.reduceLeDiff, Nat.reduceBEq])))
        refine ⟨(i, (i + j) / 2), ⟨by simp only; omega, by simp only; omega, h3, fun _ => by simp only [hq1]; omega⟩, by simp only; omega, sub_kn rfl (by simp (decide := true) only [go_sem, reduceIte, reduceCtorEq, Nat.reduceEqDiff, Nat.reduceAdd, Nat.reduceMul, Nat.reduceSub, Nat.reduceLeDiff, Nat.reduceBEq]) (fun k r hk => ?_)⟩
        simp (decide := true) only [go_sem, reduceIte, reduceCtorEq, Nat.reduceEqDiff, Nat.reduceAdd, Nat.reduceMul, Nat.reduceSub, Nat.reduceLeDiff, Nat.reduceBEq]
        exact hk
    · simp
  · have hij : i = j := by omega
    subst hij
    have hd : decide ((i : Int) < (i : Int)) = false := by simp
    (repeat (first | (refine dw_seq ?_) | (refine dw_block ?_) | ((first | (refine dw_reg (N := 49) rfl (by kernel_rfl) ?_) | (apply dw_drw (id := 5) (N := 49) [(0, .light), (1, .light), (2, .light), (3, .light), (4, .light), (5, .light), (6, .step), (7, .light)]; kernel_rfl; rfl; kernel_rfl; (repeat (first | exact Picks.nil | (apply Picks.cons; rfl)))) | (apply dw_drw (id := 8) (N := 49) [(0, .light), (1, .light), (2, .light), (3, .light), (4, .light), (5, .light), (6, .light), (7, .light), (8, .light), (9, .light), (10, .light), (11, .light), (12, .light), (13, .light), (14, .light), (15, .light)]; kernel_rfl; rfl; kernel_rfl; (repeat (first | exact Picks.nil | (apply Picks.cons; rfl)))) | (refine dw_skip ?_) | (refine dw_exit ?_)); simp (decide := true) only [go_sem, reduceIte, reduceCtorEq, Nat.reduceEqDiff, Nat.reduceAdd, Nat.reduceMul, Nat.reduceSub, Nat.reduceLeDiff, Nat.reduceBEq, hd, hne])))
    apply dw_cond; (simp (decide := true) only [go_sem, reduceIte, reduceCtorEq, Nat.reduceEqDiff, Nat.reduceAdd, Nat.reduceMul, Nat.reduceSub, Nat.reduceLeDiff, Nat.reduceBEq]; rfl)
    · simp
    intro _
    have hbs : BsOk (fun j => match ps[j]? with | some q => cmpP q p | none => 0) ps.length i := ⟨h2, h3, h4⟩
    rcases Nat.lt_or_ge i ps.length with hlt | hge
    · have hd : decide ((i : Int) < (ps.length : Int)) = true := by simpa using hlt
      obtain ⟨q, hq1⟩ : ∃ q, ps[i]? = some q := ⟨ps[i], List.getElem?_eq_getElem hlt⟩
      have hq2 : rows[i]? = some [.c (li q.entry), .c (li q.alt), .c (li q.sense)] := hps _ q hq1
      (repeat (first | (refine dw_seq ?_) | (refine dw_block ?_) | ((first | (refine dw_reg (N := 49) rfl (by kernel_rfl) ?_) | (apply dw_drw (id := 5) (N := 49) [(0, .light), (1, .light), (2, .light), (3, .light), (4, .light), (5, .light), (6, .step), (7, .light)]; kernel_rfl; rfl; kernel_rfl; (repeat (first | exact Picks.nil | (apply Picks.cons; rfl)))) | (apply dw_drw (id := 8) (N := 49) [(0, .light), (1, .light), (2, .light), (3, .light), (4, .light), (5, .light), (6, .light), (7, .light), (8, .light), (9, .light), (10, .light), (11, .light), (12, .light), (13, .light), (14, .light), (15, .light)]; kernel_rfl; rfl; kernel_rfl; (repeat (first | exact Picks.nil | (apply Picks.cons; rfl)))) | (refine dw_skip ?_) | (refine dw_exit ?_)); simp (decide := true) only [go_sem, reduceIte, reduceCtorEq, Nat.reduceEqDiff, Nat.reduceAdd, Nat.reduceMul, Nat.reduceSub, Nat.reduceLeDiff, Nat.reduceBEq, hd, hne, hr, hq2, hlt, Part.enc])))
      (first | (refine CallC.mk (byPart_D q p) (LeL.of_eq rfl) ?_) | (refine CallC.light (byPart_D q p) (LeL.of_eq rfl) ?_)); simp (decide := true) only [go_sem, reduceIte, reduceCtorEq, Nat.reduceEqDiff, Nat.reduceAdd, Nat.reduceMul, Nat.reduceSub, Nat.reduceLeDiff, Nat.reduceBEq]
      refine dw_ret ?_; simp (decide := true) only [go_sem, reduceIte, reduceCtorEq, Nat.reduceEqDiff, Nat.reduceAdd, Nat.reduceMul, Nat.reduceSub, Nat.reduceLeDiff, Nat.reduceBEq]
      exact ⟨⟨i, hbs, by simp [hq1, beq_eq_dec]⟩, fun k hk => by rw [if_neg (by omega)]⟩
    · have hd : decide ((i : Int) < (ps.length : Int)) = false := by simpa using hge
      have hnone : ps[i]? = none := List.getElem?_eq_none hge
      (repeat (first | (refine dw_seq ?_) | (refine dw_block ?_) | ((first | (refine dw_reg (N := 49) rfl (by kernel_rfl) ?_) | (apply dw_drw (id := 5) (N := 49) [(0, .light), (1, .light), (2, .light), (3, .light), (4, .light), (5, .light), (6, .step), (7, .light)]; kernel_rfl; rfl; kernel_rfl; (repeat (first | exact Picks.nil | (apply Picks.cons; rfl)))) | (apply dw_drw (id := 8) (N := 49) [(0, .light), (1, .light), (2, .light), (3, .light), (4, .light), (5, .light), (6, .light), (7, .light), (8, .light), (9, .light), (10, .light), (11, .light), (12, .light), (13, .light), (14, .light), (15, .light)]; kernel_rfl; rfl; kernel_rfl; (repeat (first | exact Picks.nil | (apply Picks.cons; rfl)))) | (refine dw_skip ?_) | (refine dw_exit ?_)); simp (decide := true) only [go_sem, reduceIte, reduceCtorEq, Nat.reduceEqDiff, Nat.reduceAdd, Nat.reduceMul, Nat.reduceSub, Nat.reduceLeDiff, Nat.reduceBEq, hd])))
      refine dw_ret ?_; simp (decide := true) only [go_sem, reduceIte, reduceCtorEq, Nat.reduceEqDiff, Nat.reduceAdd, Nat.reduceMul, Nat.reduceSub, Nat.reduceLeDiff, Nat.reduceBEq]
      exact ⟨⟨i, hbs, by simp [hnone]⟩, fun k hk => by rw [if_neg (by omega)]⟩
end Go.Proofs.Ytffcabenoakmgaa

/- Contracts of slices.Insert of one element, over memory of one's own. -/
namespace Go.Proofs.Ytffcabenoakmgaa
open Go.Dl
attribute [local irreducible] DW DCalls ECalls wk

/-- Renamings that leave alone every name between but n. -/
def KeepX (n : Nat) (r : Ren) : Prop := ∀ k, mid k → k ≠ n → r.f k = some k ∧ r.g k = some k

/-- No name stands in the rows but names between, and not n. -/
def FixX (n : Nat) (rows : Dl.Rows) : Prop := ∀ r, KeepX n r → Dl.Rows.tr r rows = rows

theorem keepX_fgts {n : Nat} {ms : List Nat} (h : ∀ m ∈ ms, ¬ mid m ∨ m = n) : KeepX n (fgts ms) := fun k hk hkn => ⟨rfl, by
  have : k ∉ ms := fun e => (h k e).elim (fun g => g hk) hkn
  simp [fgts, this]⟩
theorem keepX_fgt {n m : Nat} (h : ¬ mid m ∨ m = n) : KeepX n (fgt m) := fun k hk hkn => ⟨rfl, by
  have : k ≠ m := fun e => by subst e; exact h.elim (fun g => g hk) hkn
  simp [fgt, this]⟩
theorem keepX_cls {n m : Nat} (h : ¬ mid m ∨ m = n) : KeepX n (cls [m]) := fun k hk hkn => ⟨by
  have : k ≠ m := fun e => by subst e; exact h.elim (fun g => g hk) hkn
  simp [cls, this], rfl⟩
theorem keepX_mvr {n a b : Nat} (ha : ¬ mid a ∨ a = n) (hb : ¬ mid b ∨ b = n) : KeepX n (mvr a b) := fun k hk hkn => ⟨rfl, by
  have h1 : k ≠ a := fun e => by subst e; exact ha.elim (fun g => g hk) hkn
  have h2 : k ≠ b := fun e => by subst e; exact hb.elim (fun g => g hk) hkn
  simp [mvr, h1, h2]⟩

theorem keepX_fgts2 (n : Nat) {m : Nat} (hm : m < 1000) : KeepX n (fgts [n, m]) := keepX_fgts fun k hk => by
  simp only [List.mem_cons, List.not_mem_nil, or_false] at hk
  rcases hk with rfl | rfl
  · exact .inr rfl
  · exact .inl (notmid hm)
theorem keepX_fgt1 (n : Nat) {m : Nat} (hm : m < 1000) : KeepX n (fgt m) := keepX_fgt (.inl (notmid hm))
theorem keepX_mv1 (n : Nat) {m : Nat} (hm : m < 1000) : KeepX n (mvr m n) := keepX_mvr (.inl (notmid hm)) (.inr rfl)

theorem FixX.append_l {n : Nat} {xs ys : Dl.Rows} (h : FixX n (xs ++ ys)) : FixX n xs := fun r hr => by
  have := h r hr
  rw [Rows.tr_append] at this
  exact (List.append_inj this (by simp [Rows.tr])).1
theorem FixX.append_r {n : Nat} {xs ys : Dl.Rows} (h : FixX n (xs ++ ys)) : FixX n ys := fun r hr => by
  have := h r hr
  rw [Rows.tr_append] at this
  exact (List.append_inj this (by simp [Rows.tr])).2
theorem tr_take (r : Ren) (xs : Dl.Rows) (k : Nat) : Dl.Rows.tr r (xs.take k) = (Dl.Rows.tr r xs).take k := List.map_take
theorem tr_drop (r : Ren) (xs : Dl.Rows) (k : Nat) : Dl.Rows.tr r (xs.drop k) = (Dl.Rows.tr r xs).drop k := List.map_drop

theorem srcBa {bx : Mem} {sz n i len cap : Nat} {d : D} {rows ys : Dl.Rows} (hd : d = .one (.ba n sz i len cap)) (hb : bx n = some rows) (hl : i + len ≤ rows.length) (hz : ∀ r ∈ rows, r.length = sz) (hys : ys = (rows.drop i).take len) : Src bx sz d ys := by
  subst hd; subst hys; exact .ba n i len cap rows hb hl hz
theorem srcOne {bx : Mem} {sz n : Nat} {d : D} {v : List T} (hd : d = .one (.ba n sz 0 1 1)) (hb : bx n = some [v]) (hl : v.length = sz) : Src bx sz d [v] :=
  srcBa hd hb (by simp) (by simpa using hl) (by simp)

--F54
set_option maxRecDepth 10000 in
set_option maxHeartbeats 8000000 in
theorem insP_E (n q : Nat) (hn : 1000 ≤ n) (hn2 : n < 100000) (hq : NB ≤ q) (H : Mem) (hH : MemOk H) (rows : Dl.Rows) (j : Nat) (v : List T) (hr : H n = some (rows ++ anyRows j 3)) (hz : RowsSz 3 rows) (hv : H q = some [v]) (hvl : v.length = 3)
    (i : Nat) (hi : i ≤ rows.length) (hl : rows.length ≤ 100000) (hnm : ∀ k r, H k = some r → FixX n r) :
    ECalls Try.prog 54 [.one (.ba n 3 0 rows.length (rows.length + j)), dv (li i), .one (.ba q 3 0 1 1)] H
      (fun r H' => ∃ j', r = .one (.ba n 3 0 (rows.length + 1) (rows.length + 1 + j')) ∧ H' n = some (rows.take i ++ (v :: (rows.drop i ++ anyRows j' 3))) ∧ ∀ k, 1000 ≤ k → k ≠ n → H' k = H k) := by
  have hNB := NB_big
  have hmax : (1000000 : Nat) < maxLen := by simp [maxLen]
  have hmidn : mid n := ⟨hn, by omega⟩
  have hqn : q ≠ n := by omega
  have hqm : ¬ mid q := fun e => by have := e.2; omega
  have hne : ∀ k, k < 1000 → (n = k) = False := fun k hk => by simp; omega
  have hqe : ∀ k, k < 1000 → (q = k) = False := fun k hk => by simp; omega
  have hqne : (q = n) = False := by simp [hqn]
  have hF : ∀ (r : Ren) (k : Nat), KeepX n r → (H k).map (Dl.Rows.tr r) = H k := fun r k hk => by
    cases hc : H k with
    | none => rfl
    | some x => simp only [Option.map_some, hnm k x hc r hk]
  have hR : ∀ r, KeepX n r → Dl.Rows.tr r rows = rows := fun r hk => (hnm n _ hr).append_l r hk
  have hV : ∀ r, KeepX n r → T.trAll r v = v := fun r hk => by
    have := hnm q _ hv r hk
    simp only [Rows.tr_cons, Rows.tr_nil, List.cons.injEq, and_true] at this
    exact this
  have le1 : (0 : Nat) ≤ i := Nat.zero_le _
  have hlj : rows.length ≤ rows.length + j := by omega
  have hib : i ≤ rows.length + j := by omega
  have hz2 : RowsSz 3 (rows ++ anyRows j 3) := fun r hr => (List.mem_append.1 hr).elim (hz r) (anyRows_sz j 3 r)
  refine ecalls (N := 95) (rs := [.tmp 6]) (by kernel_rfl) Try.func54 rfl rfl rfl (by simp) ?_
  rcases Nat.lt_or_ge i rows.length with hlt | hge
  · have he : ((i : Int) == (rows.length : Int)) = false := by simp; omega
    have hw1 : IntKind.i64.wrap ((rows.length : Int) + 1) = ((rows.length + 1 : Nat) : Int) := by rw [wrap_i64 (by omega) (by omega)]; rfl
    have hw2 : IntKind.i64.wrap (((rows.length + 1 : Nat) : Int) - (i : Int)) = ((rows.length + 1 - i : Nat) : Int) := by rw [wrap_i64 (by omega) (by omega)]; omega
    have hw3 : IntKind.i64.wrap ((i : Int) + 1) = ((i + 1 : Nat) : Int) := by rw [wrap_i64 (by omega) (by omega)]; rfl
    (repeat (first | (refine dw_seq ?_) | (refine dw_block ?_) | ((first | (refine dw_reg (N := 95) rfl (by kernel_rfl) ?_) | (apply dw_drw (id := 11) (N := 95) [(0, .light), (1, .light), (2, .light), (3, .light), (4, .light), (5, .light), (6, .light), (7, .light), (8, .step)]; kernel_rfl; rfl; kernel_rfl; (repeat (first | exact Picks.nil | (apply Picks.cons; rfl)))) | (apply dw_drw (id := 15) (N := 95) [(0, .light), (1, .light), (2, .light), (3, .light), (4, .light), (5, .light), (6, .light), (7, .light), (8, .step)]; kernel_rfl; rfl; kernel_rfl; (repeat (first | exact Picks.nil | (apply Picks.cons; rfl)))) | (refine dw_skip ?_) | (refine dw_exit ?_)); simp (decide := true) only [go_sem, reduceIte, reduceCtorEq, Nat.reduceEqDiff, Nat.reduceAdd, Nat.reduceMul, Nat.reduceSub, Nat.reduceLeDiff, Nat.reduceBEq, hi, hib, hlj, he])))
    apply dw_cond; (simp (decide := true) only [go_sem, reduceIte, reduceCtorEq, Nat.reduceEqDiff, Nat.reduceAdd, Nat.reduceMul, Nat.reduceSub, Nat.reduceLeDiff, Nat.reduceBEq]; rfl)
    · simp
    intro _
    (repeat (first | (refine dw_seq ?_) | (refine dw_block ?_) | ((first | (refine dw_reg (N := 95) rfl (by kernel_rfl) ?_) | (apply dw_drw (id := 11) (N := 95) [(0, .light), (1, .light), (2, .light), (3, .light), (4, .light), (5, .light), (6, .light), (7, .light), (8, .step)]; kernel_rfl; rfl; kernel_rfl; (repeat (first | exact Picks.nil | (apply Picks.cons; rfl)))) | (apply dw_drw (id := 15) (N := 95) [(0, .light), (1, .light), (2, .light), (3, .light), (4, .light), (5, .light), (6, .light), (7, .light), (8, .step)]; kernel_rfl; rfl; kernel_rfl; (repeat (first | exact Picks.nil | (apply Picks.cons; rfl)))) | (refine dw_skip ?_) | (refine dw_exit ?_)); simp (decide := true) only [go_sem, reduceIte, reduceCtorEq, Nat.reduceEqDiff, Nat.reduceAdd, Nat.reduceMul, Nat.reduceSub, Nat.reduceLeDiff, Nat.reduceBEq, hi, hib, hlj, he])))
    apply dw_cond; (simp (decide := true) only [go_sem, reduceIte, reduceCtorEq, Nat.reduceEqDiff, Nat.reduceAdd, Nat.reduceMul, Nat.reduceSub, Nat.reduceLeDiff, Nat.reduceBEq]; rfl)
    · simp
    intro _
    rcases Nat.eq_zero_or_pos j with hj0 | hj0
    · have hg : decide (((rows.length + j : Nat) : Int) < ((rows.length + 1 : Nat) : Int)) = true := by simp; omega
      (repeat (first | (refine dw_seq ?_) | (refine dw_block ?_) | ((first | (refine dw_reg (N := 95) rfl (by kernel_rfl) ?_) | (apply dw_drw (id := 11) (N := 95) [(0, .light), (1, .light), (2, .light), (3, .light), (4, .light), (5, .light), (6, .light), (7, .light), (8, .step)]; kernel_rfl; rfl; kernel_rfl; (repeat (first | exact Picks.nil | (apply Picks.cons; rfl)))) | (apply dw_drw (id := 15) (N := 95) [(0, .light), (1, .light), (2, .light), (3, .light), (4, .light), (5, .light), (6, .light), (7, .light), (8, .step)]; kernel_rfl; rfl; kernel_rfl; (repeat (first | exact Picks.nil | (apply Picks.cons; rfl)))) | (refine dw_skip ?_) | (refine dw_exit ?_)); simp (decide := true) only [go_sem, reduceIte, reduceCtorEq, Nat.reduceEqDiff, Nat.reduceAdd, Nat.reduceMul, Nat.reduceSub, Nat.reduceLeDiff, Nat.reduceBEq, hi, hib, hlj, he, hw1, hg])))
      apply dw_cond; (simp (decide := true) only [go_sem, reduceIte, reduceCtorEq, Nat.reduceEqDiff, Nat.reduceAdd, Nat.reduceMul, Nat.reduceSub, Nat.reduceLeDiff, Nat.reduceBEq]; rfl)
      · intro _
        have hik : i + (rows.length + 1 - i) = rows.length + 1 := by omega
        have h0i := Nat.zero_le i
        (repeat (first | (refine dw_seq ?_) | (refine dw_block ?_) | ((first | (refine dw_reg (N := 95) rfl (by kernel_rfl) ?_) | (apply dw_drw (id := 11) (N := 95) [(0, .light), (1, .light), (2, .light), (3, .light), (4, .light), (5, .light), (6, .light), (7, .light), (8, .step)]; kernel_rfl; rfl; kernel_rfl; (repeat (first | exact Picks.nil | (apply Picks.cons; rfl)))) | (apply dw_drw (id := 15) (N := 95) [(0, .light), (1, .light), (2, .light), (3, .light), (4, .light), (5, .light), (6, .light), (7, .light), (8, .step)]; kernel_rfl; rfl; kernel_rfl; (repeat (first | exact Picks.nil | (apply Picks.cons; rfl)))) | (refine dw_skip ?_) | (refine dw_exit ?_)); simp (decide := true) only [go_sem, reduceIte, reduceCtorEq, Nat.reduceEqDiff, Nat.reduceAdd, Nat.reduceMul, Nat.reduceSub, Nat.reduceLeDiff, Nat.reduceBEq, hi, hib, hlj, he, hw1, hw2, h0i, Nat.sub_zero])))
        refine StepC.mk (Step.appendMkList (kd := .i64) (n := n) (rows := rows ++ anyRows j 3) (i := 0) (len := i) (cap := rows.length + j) (k := rows.length + 1 - i) (sz := 3) (by_ := 24) rfl rfl (by simp (decide := true) only [go_sem, reduceIte, reduceCtorEq, Nat.reduceEqDiff, Nat.reduceAdd, Nat.reduceMul, Nat.reduceSub, Nat.reduceLeDiff, Nat.reduceBEq]) (by simp (decide := true) only [go_sem, reduceIte, reduceCtorEq, Nat.reduceEqDiff, Nat.reduceAdd, Nat.reduceMul, Nat.reduceSub, Nat.reduceLeDiff, Nat.reduceBEq]) (by simp (decide := true) only [go_sem, reduceIte, reduceCtorEq, Nat.reduceEqDiff, Nat.reduceAdd, Nat.reduceMul, Nat.reduceSub, Nat.reduceLeDiff, Nat.reduceBEq]) (by simp (decide := true) only [go_sem, reduceIte, reduceCtorEq, Nat.reduceEqDiff, Nat.reduceAdd, Nat.reduceMul, Nat.reduceSub, Nat.reduceLeDiff, Nat.reduceBEq]) (by simp (decide := true) only [go_sem, reduceIte, reduceCtorEq, Nat.reduceEqDiff, Nat.reduceAdd, Nat.reduceMul, Nat.reduceSub, Nat.reduceLeDiff, Nat.reduceBEq]; exact hr) (by simp [anyRows_len]) hz2 (by omega) (by omega) (by omega) (by omega) ?_)
        intro j'
        have hik2 : i ≤ rows.length + 1 := by omega
        have hlj2 : rows.length + 1 ≤ rows.length + 1 + j' := by omega
        have ht0 : ((rows ++ anyRows j 3).drop 0).take i = rows.take i := by rw [List.drop_zero, List.take_append_of_le_length hi]
        have k1 : KeepX n (fgt 40) := keepX_fgt1 n (by omega)
        have b1 : Dl.Rows.tr (fgt 40) (rows.take i) = rows.take i := by rw [tr_take, hR _ k1]
        have a1 := fun k => hF _ k k1
        simp only [ht0, hik]
        simp (decide := true) only [go_sem, reduceIte, reduceCtorEq, Nat.reduceEqDiff, Nat.reduceAdd, Nat.reduceMul, Nat.reduceSub, Nat.reduceLeDiff, Nat.reduceBEq, hne]
        (repeat (first | (refine dw_seq ?_) | (refine dw_block ?_) | ((first | (refine dw_reg (N := 95) rfl (by kernel_rfl) ?_) | (apply dw_drw (id := 11) (N := 95) [(0, .light), (1, .light), (2, .light), (3, .light), (4, .light), (5, .light), (6, .light), (7, .light), (8, .step)]; kernel_rfl; rfl; kernel_rfl; (repeat (first | exact Picks.nil | (apply Picks.cons; rfl)))) | (apply dw_drw (id := 15) (N := 95) [(0, .light), (1, .light), (2, .light), (3, .light), (4, .light), (5, .light), (6, .light), (7, .light), (8, .step)]; kernel_rfl; rfl; kernel_rfl; (repeat (first | exact Picks.nil | (apply Picks.cons; rfl)))) | (refine dw_skip ?_) | (refine dw_exit ?_)); simp (decide := true) only [go_sem, reduceIte, reduceCtorEq, Nat.reduceEqDiff, Nat.reduceAdd, Nat.reduceMul, Nat.reduceSub, Nat.reduceLeDiff, Nat.reduceBEq, hne, hik2, hlj2])))
        have hzt : RowsSz 3 (rows.take i ++ anyRows (rows.length + 1 - i + j') 3) := fun r hr => (List.mem_append.1 hr).elim (fun h => hz r (List.mem_of_mem_take h)) (anyRows_sz _ 3 r)
        have hzt2 : RowsSz 3 (rows.take i ++ v :: anyRows (rows.length - i + j') 3) := fun r hr => by
          simp only [List.mem_append, List.mem_cons] at hr
          rcases hr with h | rfl | h
          · exact hz r (List.mem_of_mem_take h)
          · exact hvl
          · exact anyRows_sz _ 3 r h
        have hti : (rows.take i).length = i := by simp; omega
        refine StepC.mk (Step.copyTo (n := 40) (sz := 3) (i := i) (len := rows.length + 1 - i) (cap := rows.length + 1 + j' - i) (ys := [v]) (rows := rows.take i ++ anyRows (rows.length + 1 - i + j') 3) (rows' := rows.take i ++ v :: anyRows (rows.length - i + j') 3) (c := 1)
          rfl (by simp (decide := true) only [go_sem, reduceIte, reduceCtorEq, Nat.reduceEqDiff, Nat.reduceAdd, Nat.reduceMul, Nat.reduceSub, Nat.reduceLeDiff, Nat.reduceBEq]) (by simp (decide := true) only [go_sem, reduceIte, reduceCtorEq, Nat.reduceEqDiff, Nat.reduceAdd, Nat.reduceMul, Nat.reduceSub, Nat.reduceLeDiff, Nat.reduceBEq, hne]) (by simp (decide := true) only [go_sem, reduceIte, reduceCtorEq, Nat.reduceEqDiff, Nat.reduceAdd, Nat.reduceMul, Nat.reduceSub, Nat.reduceLeDiff, Nat.reduceBEq, hne, b1]) (by simp only [List.length_append, anyRows_len, hti]; omega) hzt (srcOne (n := q) (by simp (decide := true) only [go_sem, reduceIte, reduceCtorEq, Nat.reduceEqDiff, Nat.reduceAdd, Nat.reduceMul, Nat.reduceSub, Nat.reduceLeDiff, Nat.reduceBEq, hqe, hqm]) (by simp (decide := true) only [go_sem, reduceIte, reduceCtorEq, Nat.reduceEqDiff, Nat.reduceAdd, Nat.reduceMul, Nat.reduceSub, Nat.reduceLeDiff, Nat.reduceBEq, hqe, a1]; exact hv) hvl) (by simp <;> omega) (ins_grow1 rows v i j' 3 hlt) ?_)
        have hi1 : i + 1 ≤ rows.length + 1 := by omega
        simp (decide := true) only [go_sem, reduceIte, reduceCtorEq, Nat.reduceEqDiff, Nat.reduceAdd, Nat.reduceMul, Nat.reduceSub, Nat.reduceLeDiff, Nat.reduceBEq, hne]
        (repeat (first | (refine dw_seq ?_) | (refine dw_block ?_) | ((first | (refine dw_reg (N := 95) rfl (by kernel_rfl) ?_) | (apply dw_drw (id := 11) (N := 95) [(0, .light), (1, .light), (2, .light), (3, .light), (4, .light), (5, .light), (6, .light), (7, .light), (8, .step)]; kernel_rfl; rfl; kernel_rfl; (repeat (first | exact Picks.nil | (apply Picks.cons; rfl)))) | (apply dw_drw (id := 15) (N := 95) [(0, .light), (1, .light), (2, .light), (3, .light), (4, .light), (5, .light), (6, .light), (7, .light), (8, .step)]; kernel_rfl; rfl; kernel_rfl; (repeat (first | exact Picks.nil | (apply Picks.cons; rfl)))) | (refine dw_skip ?_) | (refine dw_exit ?_)); simp (decide := true) only [go_sem, reduceIte, reduceCtorEq, Nat.reduceEqDiff, Nat.reduceAdd, Nat.reduceMul, Nat.reduceSub, Nat.reduceLeDiff, Nat.reduceBEq, hne, hw3, hi1, hlj2, hi, hlj])))
        refine StepC.mk (Step.copyTo (n := 40) (sz := 3) (i := i + 1) (len := rows.length + 1 - (i + 1)) (cap := rows.length + 1 + j' - (i + 1)) (ys := rows.drop i) (rows := rows.take i ++ v :: anyRows (rows.length - i + j') 3) (rows' := rows.take i ++ (v :: (rows.drop i ++ anyRows j' 3))) (c := rows.length - i)
          rfl (by simp (decide := true) only [go_sem, reduceIte, reduceCtorEq, Nat.reduceEqDiff, Nat.reduceAdd, Nat.reduceMul, Nat.reduceSub, Nat.reduceLeDiff, Nat.reduceBEq]) (by simp (decide := true) only [go_sem, reduceIte, reduceCtorEq, Nat.reduceEqDiff, Nat.reduceAdd, Nat.reduceMul, Nat.reduceSub, Nat.reduceLeDiff, Nat.reduceBEq, hne]) (by simp (decide := true) only [go_sem, reduceIte, reduceCtorEq, Nat.reduceEqDiff, Nat.reduceAdd, Nat.reduceMul, Nat.reduceSub, Nat.reduceLeDiff, Nat.reduceBEq, hne]) (by simp only [List.length_append, List.length_cons, anyRows_len, hti]; omega) hzt2
          (srcBa (n := n) (i := i) (len := rows.length - i) (cap := rows.length + j - i) (rows := rows ++ anyRows j 3) (by simp (decide := true) only [go_sem, reduceIte, reduceCtorEq, Nat.reduceEqDiff, Nat.reduceAdd, Nat.reduceMul, Nat.reduceSub, Nat.reduceLeDiff, Nat.reduceBEq, hne]) (by simp (decide := true) only [go_sem, reduceIte, reduceCtorEq, Nat.reduceEqDiff, Nat.reduceAdd, Nat.reduceMul, Nat.reduceSub, Nat.reduceLeDiff, Nat.reduceBEq, hne, a1]; exact hr) (by simp only [List.length_append, anyRows_len]; omega) hz2 (by rw [List.drop_append_of_le_length hi, List.take_append_of_le_length (by simp), List.take_of_length_le (by simp)])) (by simp <;> omega) (ins_grow2 rows v i j' 3 hlt) ?_)
        simp (decide := true) only [go_sem, reduceIte, reduceCtorEq, Nat.reduceEqDiff, Nat.reduceAdd, Nat.reduceMul, Nat.reduceSub, Nat.reduceLeDiff, Nat.reduceBEq, hne]
        (repeat (first | (refine dw_seq ?_) | (refine dw_block ?_) | ((first | (refine dw_reg (N := 95) rfl (by kernel_rfl) ?_) | (apply dw_drw (id := 11) (N := 95) [(0, .light), (1, .light), (2, .light), (3, .light), (4, .light), (5, .light), (6, .light), (7, .light), (8, .step)]; kernel_rfl; rfl; kernel_rfl; (repeat (first | exact Picks.nil | (apply Picks.cons; rfl)))) | (apply dw_drw (id := 15) (N := 95) [(0, .light), (1, .light), (2, .light), (3, .light), (4, .light), (5, .light), (6, .light), (7, .light), (8, .step)]; kernel_rfl; rfl; kernel_rfl; (repeat (first | exact Picks.nil | (apply Picks.cons; rfl)))) | (refine dw_skip ?_) | (refine dw_exit ?_)); simp (decide := true) only [go_sem, reduceIte, reduceCtorEq, Nat.reduceEqDiff, Nat.reduceAdd, Nat.reduceMul, Nat.reduceSub, Nat.reduceLeDiff, Nat.reduceBEq, hne])))
        refine dw_weaken (sub_mv 40 n hn2) ?_
        have k2 : KeepX n (mvr 40 n) := keepX_mv1 n (by omega)
        have a2 := fun k => hF _ k k2
        have b2 : Dl.Rows.tr (mvr 40 n) (rows.take i) = rows.take i := by rw [tr_take, hR _ k2]
        have b3 : Dl.Rows.tr (mvr 40 n) (rows.drop i) = rows.drop i := by rw [tr_drop, hR _ k2]
        have c2 := hV _ k2
        refine dw_ret ?_; simp (decide := true) only [go_sem, reduceIte, reduceCtorEq, Nat.reduceEqDiff, Nat.reduceAdd, Nat.reduceMul, Nat.reduceSub, Nat.reduceLeDiff, Nat.reduceBEq, hne]
        refine ⟨j', rfl, ?_, fun k hk hkn => ?_⟩
        · simp (decide := true) only [go_sem, reduceIte, reduceCtorEq, Nat.reduceEqDiff, Nat.reduceAdd, Nat.reduceMul, Nat.reduceSub, Nat.reduceLeDiff, Nat.reduceBEq, hne, b2, b3, c2]
        · have hk40 : ¬ k = 40 := by omega
          simp (decide := true) only [go_sem, reduceIte, reduceCtorEq, Nat.reduceEqDiff, Nat.reduceAdd, Nat.reduceMul, Nat.reduceSub, Nat.reduceLeDiff, Nat.reduceBEq, hne, hkn, hk40, a1, a2]
      · simp
    · have hg : decide (((rows.length + j : Nat) : Int) < ((rows.length + 1 : Nat) : Int)) = false := by simp; omega
      (repeat (first | (refine dw_seq ?_) | (refine dw_block ?_) | ((first | (refine dw_reg (N := 95) rfl (by kernel_rfl) ?_) | (apply dw_drw (id := 11) (N := 95) [(0, .light), (1, .light), (2, .light), (3, .light), (4, .light), (5, .light), (6, .light), (7, .light), (8, .step)]; kernel_rfl; rfl; kernel_rfl; (repeat (first | exact Picks.nil | (apply Picks.cons; rfl)))) | (apply dw_drw (id := 15) (N := 95) [(0, .light), (1, .light), (2, .light), (3, .light), (4, .light), (5, .light), (6, .light), (7, .light), (8, .step)]; kernel_rfl; rfl; kernel_rfl; (repeat (first | exact Picks.nil | (apply Picks.cons; rfl)))) | (refine dw_skip ?_) | (refine dw_exit ?_)); simp (decide := true) only [go_sem, reduceIte, reduceCtorEq, Nat.reduceEqDiff, Nat.reduceAdd, Nat.reduceMul, Nat.reduceSub, Nat.reduceLeDiff, Nat.reduceBEq, hi, hib, hlj, he, hw1, hg])))
      apply dw_cond; (simp (decide := true) only [go_sem, reduceIte, reduceCtorEq, Nat.reduceEqDiff, Nat.reduceAdd, Nat.reduceMul, Nat.reduceSub, Nat.reduceLeDiff, Nat.reduceBEq]; rfl)
      · simp
      intro _
      have hj1 : rows.length + 1 ≤ rows.length + j := by omega
      have h0l := Nat.zero_le (rows.length + 1)
      have hi1 : i + 1 ≤ rows.length + 1 := by omega
      (repeat (first | (refine dw_seq ?_) | (refine dw_block ?_) | ((first | (refine dw_reg (N := 95) rfl (by kernel_rfl) ?_) | (apply dw_drw (id := 11) (N := 95) [(0, .light), (1, .light), (2, .light), (3, .light), (4, .light), (5, .light), (6, .light), (7, .light), (8, .step)]; kernel_rfl; rfl; kernel_rfl; (repeat (first | exact Picks.nil | (apply Picks.cons; rfl)))) | (apply dw_drw (id := 15) (N := 95) [(0, .light), (1, .light), (2, .light), (3, .light), (4, .light), (5, .light), (6, .light), (7, .light), (8, .step)]; kernel_rfl; rfl; kernel_rfl; (repeat (first | exact Picks.nil | (apply Picks.cons; rfl)))) | (refine dw_skip ?_) | (refine dw_exit ?_)); simp (decide := true) only [go_sem, reduceIte, reduceCtorEq, Nat.reduceEqDiff, Nat.reduceAdd, Nat.reduceMul, Nat.reduceSub, Nat.reduceLeDiff, Nat.reduceBEq, hi, hib, hlj, he, hw1, hw3, hj1, h0l, Nat.sub_zero, hi1])))
      refine CallC.step (Step.overlaps (t := 32) (tr := 4) (q := q) (sz := 3) (m := 1) (rowsq := [v]) (n := n) (i := i + 1) (len := rows.length + 1 - (i + 1)) (cap := rows.length + j - (i + 1)) (rows := rows ++ anyRows j 3) rfl (by simp (decide := true) only [go_sem, reduceIte, reduceCtorEq, Nat.reduceEqDiff, Nat.reduceAdd, Nat.reduceMul, Nat.reduceSub, Nat.reduceLeDiff, Nat.reduceBEq]) Try.func61 (by kernel_rfl) (by kernel_rfl) (by kernel_rfl) (by kernel_rfl) Try.underlying32 (inf := Try.t54) (by kernel_rfl)
        (by simp (decide := true) only [go_sem, reduceIte, reduceCtorEq, Nat.reduceEqDiff, Nat.reduceAdd, Nat.reduceMul, Nat.reduceSub, Nat.reduceLeDiff, Nat.reduceBEq]) (by simp (decide := true) only [go_sem, reduceIte, reduceCtorEq, Nat.reduceEqDiff, Nat.reduceAdd, Nat.reduceMul, Nat.reduceSub, Nat.reduceLeDiff, Nat.reduceBEq]; exact hv) (by simp) (by omega) (by omega) (by simp (decide := true) only [go_sem, reduceIte, reduceCtorEq, Nat.reduceEqDiff, Nat.reduceAdd, Nat.reduceMul, Nat.reduceSub, Nat.reduceLeDiff, Nat.reduceBEq]) (by simp (decide := true) only [go_sem, reduceIte, reduceCtorEq, Nat.reduceEqDiff, Nat.reduceAdd, Nat.reduceMul, Nat.reduceSub, Nat.reduceLeDiff, Nat.reduceBEq]; exact hr) (fun e => by have := congrArg List.length e; simp [anyRows_len] at this; omega) hz2 (by omega) hqn ?_)
      simp (decide := true) only [go_sem, reduceIte, reduceCtorEq, Nat.reduceEqDiff, Nat.reduceAdd, Nat.reduceMul, Nat.reduceSub, Nat.reduceLeDiff, Nat.reduceBEq]
      (repeat (first | (refine dw_seq ?_) | (refine dw_block ?_) | ((first | (refine dw_reg (N := 95) rfl (by kernel_rfl) ?_) | (apply dw_drw (id := 11) (N := 95) [(0, .light), (1, .light), (2, .light), (3, .light), (4, .light), (5, .light), (6, .light), (7, .light), (8, .step)]; kernel_rfl; rfl; kernel_rfl; (repeat (first | exact Picks.nil | (apply Picks.cons; rfl)))) | (apply dw_drw (id := 15) (N := 95) [(0, .light), (1, .light), (2, .light), (3, .light), (4, .light), (5, .light), (6, .light), (7, .light), (8, .step)]; kernel_rfl; rfl; kernel_rfl; (repeat (first | exact Picks.nil | (apply Picks.cons; rfl)))) | (refine dw_skip ?_) | (refine dw_exit ?_)); simp (decide := true) only [go_sem, reduceIte, reduceCtorEq, Nat.reduceEqDiff, Nat.reduceAdd, Nat.reduceMul, Nat.reduceSub, Nat.reduceLeDiff, Nat.reduceBEq])))
      apply dw_cond; (simp (decide := true) only [go_sem, reduceIte, reduceCtorEq, Nat.reduceEqDiff, Nat.reduceAdd, Nat.reduceMul, Nat.reduceSub, Nat.reduceLeDiff, Nat.reduceBEq]; rfl)
      · intro _
        have hi2 : i ≤ rows.length + 1 := by omega
        have hRl : rows.length + j = (rows ++ anyRows j 3).length := by simp [anyRows_len]
        have hzr : RowsSz 3 (rows.take (i + 1) ++ (rows.drop i ++ anyRows (j - 1) 3)) := fun r hr => by
          simp only [List.mem_append] at hr
          rcases hr with h | h | h
          · exact hz r (List.mem_of_mem_take h)
          · exact hz r (List.mem_of_mem_drop h)
          · exact anyRows_sz _ 3 r h
        (repeat (first | (refine dw_seq ?_) | (refine dw_block ?_) | ((first | (refine dw_reg (N := 95) rfl (by kernel_rfl) ?_) | (apply dw_drw (id := 11) (N := 95) [(0, .light), (1, .light), (2, .light), (3, .light), (4, .light), (5, .light), (6, .light), (7, .light), (8, .step)]; kernel_rfl; rfl; kernel_rfl; (repeat (first | exact Picks.nil | (apply Picks.cons; rfl)))) | (apply dw_drw (id := 15) (N := 95) [(0, .light), (1, .light), (2, .light), (3, .light), (4, .light), (5, .light), (6, .light), (7, .light), (8, .step)]; kernel_rfl; rfl; kernel_rfl; (repeat (first | exact Picks.nil | (apply Picks.cons; rfl)))) | (refine dw_skip ?_) | (refine dw_exit ?_)); simp (decide := true) only [go_sem, reduceIte, reduceCtorEq, Nat.reduceEqDiff, Nat.reduceAdd, Nat.reduceMul, Nat.reduceSub, Nat.reduceLeDiff, Nat.reduceBEq, hi, hib, hlj, he, hw1, hw3, hj1, h0l, Nat.sub_zero, hi1, hi2])))
        refine StepC.mk (Step.copyTo (n := n) (sz := 3) (i := i + 1) (len := rows.length + 1 - (i + 1)) (cap := rows.length + j - (i + 1)) (ys := ((rows ++ anyRows j 3).drop i).take (rows.length + 1 - i)) (rows := rows ++ anyRows j 3) (rows' := rows.take (i + 1) ++ (rows.drop i ++ anyRows (j - 1) 3)) (c := rows.length - i)
          rfl (by simp (decide := true) only [go_sem, reduceIte, reduceCtorEq, Nat.reduceEqDiff, Nat.reduceAdd, Nat.reduceMul, Nat.reduceSub, Nat.reduceLeDiff, Nat.reduceBEq]) (by simp (decide := true) only [go_sem, reduceIte, reduceCtorEq, Nat.reduceEqDiff, Nat.reduceAdd, Nat.reduceMul, Nat.reduceSub, Nat.reduceLeDiff, Nat.reduceBEq]) (by simp (decide := true) only [go_sem, reduceIte, reduceCtorEq, Nat.reduceEqDiff, Nat.reduceAdd, Nat.reduceMul, Nat.reduceSub, Nat.reduceLeDiff, Nat.reduceBEq]; exact hr) (by rw [← hRl]; omega) hz2
          (srcBa (n := n) (i := i) (len := rows.length + 1 - i) (cap := rows.length + j - i) (rows := rows ++ anyRows j 3) (by simp (decide := true) only [go_sem, reduceIte, reduceCtorEq, Nat.reduceEqDiff, Nat.reduceAdd, Nat.reduceMul, Nat.reduceSub, Nat.reduceLeDiff, Nat.reduceBEq]) (by simp (decide := true) only [go_sem, reduceIte, reduceCtorEq, Nat.reduceEqDiff, Nat.reduceAdd, Nat.reduceMul, Nat.reduceSub, Nat.reduceLeDiff, Nat.reduceBEq]; exact hr) (by rw [← hRl]; omega) hz2 rfl) (by simp [anyRows_len]; omega) (ins_room1 rows i j 3 hlt hj0) ?_)
        simp (decide := true) only [go_sem, reduceIte, reduceCtorEq, Nat.reduceEqDiff, Nat.reduceAdd, Nat.reduceMul, Nat.reduceSub, Nat.reduceLeDiff, Nat.reduceBEq]
        (repeat (first | (refine dw_seq ?_) | (refine dw_block ?_) | ((first | (refine dw_reg (N := 95) rfl (by kernel_rfl) ?_) | (apply dw_drw (id := 11) (N := 95) [(0, .light), (1, .light), (2, .light), (3, .light), (4, .light), (5, .light), (6, .light), (7, .light), (8, .step)]; kernel_rfl; rfl; kernel_rfl; (repeat (first | exact Picks.nil | (apply Picks.cons; rfl)))) | (apply dw_drw (id := 15) (N := 95) [(0, .light), (1, .light), (2, .light), (3, .light), (4, .light), (5, .light), (6, .light), (7, .light), (8, .step)]; kernel_rfl; rfl; kernel_rfl; (repeat (first | exact Picks.nil | (apply Picks.cons; rfl)))) | (refine dw_skip ?_) | (refine dw_exit ?_)); simp (decide := true) only [go_sem, reduceIte, reduceCtorEq, Nat.reduceEqDiff, Nat.reduceAdd, Nat.reduceMul, Nat.reduceSub, Nat.reduceLeDiff, Nat.reduceBEq, hi, hib, hlj, he, hw1, hw3, hj1, h0l, Nat.sub_zero, hi1, hi2])))
        have hti : (rows.take (i + 1)).length = i + 1 := by simp; omega
        refine StepC.mk (Step.copyTo (n := n) (sz := 3) (i := i) (len := rows.length + 1 - i) (cap := rows.length + j - i) (ys := [v]) (rows := rows.take (i + 1) ++ (rows.drop i ++ anyRows (j - 1) 3)) (rows' := rows.take i ++ (v :: (rows.drop i ++ anyRows (j - 1) 3))) (c := 1)
          rfl (by simp (decide := true) only [go_sem, reduceIte, reduceCtorEq, Nat.reduceEqDiff, Nat.reduceAdd, Nat.reduceMul, Nat.reduceSub, Nat.reduceLeDiff, Nat.reduceBEq]) (by simp (decide := true) only [go_sem, reduceIte, reduceCtorEq, Nat.reduceEqDiff, Nat.reduceAdd, Nat.reduceMul, Nat.reduceSub, Nat.reduceLeDiff, Nat.reduceBEq]) (by simp (decide := true) only [go_sem, reduceIte, reduceCtorEq, Nat.reduceEqDiff, Nat.reduceAdd, Nat.reduceMul, Nat.reduceSub, Nat.reduceLeDiff, Nat.reduceBEq]) (by simp only [List.length_append, List.length_drop, anyRows_len, hti]; omega) hzr (srcOne (n := q) (by simp (decide := true) only [go_sem, reduceIte, reduceCtorEq, Nat.reduceEqDiff, Nat.reduceAdd, Nat.reduceMul, Nat.reduceSub, Nat.reduceLeDiff, Nat.reduceBEq]) (by simp (decide := true) only [go_sem, reduceIte, reduceCtorEq, Nat.reduceEqDiff, Nat.reduceAdd, Nat.reduceMul, Nat.reduceSub, Nat.reduceLeDiff, Nat.reduceBEq, hqne]; exact hv) hvl) (by simp <;> omega) (ins_room2 rows v i (j - 1) 3 hlt) ?_)
        simp (decide := true) only [go_sem, reduceIte, reduceCtorEq, Nat.reduceEqDiff, Nat.reduceAdd, Nat.reduceMul, Nat.reduceSub, Nat.reduceLeDiff, Nat.reduceBEq]
        (repeat (first | (refine dw_seq ?_) | (refine dw_block ?_) | ((first | (refine dw_reg (N := 95) rfl (by kernel_rfl) ?_) | (apply dw_drw (id := 11) (N := 95) [(0, .light), (1, .light), (2, .light), (3, .light), (4, .light), (5, .light), (6, .light), (7, .light), (8, .step)]; kernel_rfl; rfl; kernel_rfl; (repeat (first | exact Picks.nil | (apply Picks.cons; rfl)))) | (apply dw_drw (id := 15) (N := 95) [(0, .light), (1, .light), (2, .light), (3, .light), (4, .light), (5, .light), (6, .light), (7, .light), (8, .step)]; kernel_rfl; rfl; kernel_rfl; (repeat (first | exact Picks.nil | (apply Picks.cons; rfl)))) | (refine dw_skip ?_) | (refine dw_exit ?_)); simp (decide := true) only [go_sem, reduceIte, reduceCtorEq, Nat.reduceEqDiff, Nat.reduceAdd, Nat.reduceMul, Nat.reduceSub, Nat.reduceLeDiff, Nat.reduceBEq])))
        refine dw_ret ?_; simp (decide := true) only [go_sem, reduceIte, reduceCtorEq, Nat.reduceEqDiff, Nat.reduceAdd, Nat.reduceMul, Nat.reduceSub, Nat.reduceLeDiff, Nat.reduceBEq]
        have hjj : rows.length + 1 + (j - 1) = rows.length + j := by omega
        refine ⟨j - 1, by rw [hjj], ?_, fun k hk hkn => ?_⟩
        · simp (decide := true) only [go_sem, reduceIte, reduceCtorEq, Nat.reduceEqDiff, Nat.reduceAdd, Nat.reduceMul, Nat.reduceSub, Nat.reduceLeDiff, Nat.reduceBEq]
        · simp (decide := true) only [go_sem, reduceIte, reduceCtorEq, Nat.reduceEqDiff, Nat.reduceAdd, Nat.reduceMul, Nat.reduceSub, Nat.reduceLeDiff, Nat.reduceBEq, hkn]
      · simp
  · have hie : i = rows.length := by omega
    have he : ((i : Int) == (rows.length : Int)) = true := by simp; omega
    (repeat (first | (refine dw_seq ?_) | (refine dw_block ?_) | ((first | (refine dw_reg (N := 95) rfl (by kernel_rfl) ?_) | (apply dw_drw (id := 11) (N := 95) [(0, .light), (1, .light), (2, .light), (3, .light), (4, .light), (5, .light), (6, .light), (7, .light), (8, .step)]; kernel_rfl; rfl; kernel_rfl; (repeat (first | exact Picks.nil | (apply Picks.cons; rfl)))) | (apply dw_drw (id := 15) (N := 95) [(0, .light), (1, .light), (2, .light), (3, .light), (4, .light), (5, .light), (6, .light), (7, .light), (8, .step)]; kernel_rfl; rfl; kernel_rfl; (repeat (first | exact Picks.nil | (apply Picks.cons; rfl)))) | (refine dw_skip ?_) | (refine dw_exit ?_)); simp (decide := true) only [go_sem, reduceIte, reduceCtorEq, Nat.reduceEqDiff, Nat.reduceAdd, Nat.reduceMul, Nat.reduceSub, Nat.reduceLeDiff, Nat.reduceBEq, hi, hib, hlj, he])))
    apply dw_cond; (simp (decide := true) only [go_sem, reduceIte, reduceCtorEq, Nat.reduceEqDiff, Nat.reduceAdd, Nat.reduceMul, Nat.reduceSub, Nat.reduceLeDiff, Nat.reduceBEq]; rfl)
    · simp
    intro _
    (repeat (first | (refine dw_seq ?_) | (refine dw_block ?_) | ((first | (refine dw_reg (N := 95) rfl (by kernel_rfl) ?_) | (apply dw_drw (id := 11) (N := 95) [(0, .light), (1, .light), (2, .light), (3, .light), (4, .light), (5, .light), (6, .light), (7, .light), (8, .step)]; kernel_rfl; rfl; kernel_rfl; (repeat (first | exact Picks.nil | (apply Picks.cons; rfl)))) | (apply dw_drw (id := 15) (N := 95) [(0, .light), (1, .light), (2, .light), (3, .light), (4, .light), (5, .light), (6, .light), (7, .light), (8, .step)]; kernel_rfl; rfl; kernel_rfl; (repeat (first | exact Picks.nil | (apply Picks.cons; rfl)))) | (refine dw_skip ?_) | (refine dw_exit ?_)); simp (decide := true) only [go_sem, reduceIte, reduceCtorEq, Nat.reduceEqDiff, Nat.reduceAdd, Nat.reduceMul, Nat.reduceSub, Nat.reduceLeDiff, Nat.reduceBEq, hi, hib, hlj, he])))
    apply dw_cond; (simp (decide := true) only [go_sem, reduceIte, reduceCtorEq, Nat.reduceEqDiff, Nat.reduceAdd, Nat.reduceMul, Nat.reduceSub, Nat.reduceLeDiff, Nat.reduceBEq]; rfl)
    · intro _
      (repeat (first | (refine dw_seq ?_) | (refine dw_block ?_) | ((first | (refine dw_reg (N := 95) rfl (by kernel_rfl) ?_) | (apply dw_drw (id := 11) (N := 95) [(0, .light), (1, .light), (2, .light), (3, .light), (4, .light), (5, .light), (6, .light), (7, .light), (8, .step)]; kernel_rfl; rfl; kernel_rfl; (repeat (first | exact Picks.nil | (apply Picks.cons; rfl)))) | (apply dw_drw (id := 15) (N := 95) [(0, .light), (1, .light), (2, .light), (3, .light), (4, .light), (5, .light), (6, .light), (7, .light), (8, .step)]; kernel_rfl; rfl; kernel_rfl; (repeat (first | exact Picks.nil | (apply Picks.cons; rfl)))) | (refine dw_skip ?_) | (refine dw_exit ?_)); simp (decide := true) only [go_sem, reduceIte, reduceCtorEq, Nat.reduceEqDiff, Nat.reduceAdd, Nat.reduceMul, Nat.reduceSub, Nat.reduceLeDiff, Nat.reduceBEq, hi, hib, hlj, he])))
      refine StepC.mk (Step.appendList (n := n) (rows := rows) (ys := [v]) (j := j) (sz := 3) (by_ := 24) rfl rfl (by simp (decide := true) only [go_sem, reduceIte, reduceCtorEq, Nat.reduceEqDiff, Nat.reduceAdd, Nat.reduceMul, Nat.reduceSub, Nat.reduceLeDiff, Nat.reduceBEq]) (by simp (decide := true) only [go_sem, reduceIte, reduceCtorEq, Nat.reduceEqDiff, Nat.reduceAdd, Nat.reduceMul, Nat.reduceSub, Nat.reduceLeDiff, Nat.reduceBEq]) (by simp (decide := true) only [go_sem, reduceIte, reduceCtorEq, Nat.reduceEqDiff, Nat.reduceAdd, Nat.reduceMul, Nat.reduceSub, Nat.reduceLeDiff, Nat.reduceBEq]; exact hr) hz (srcOne (n := q) (by simp (decide := true) only [go_sem, reduceIte, reduceCtorEq, Nat.reduceEqDiff, Nat.reduceAdd, Nat.reduceMul, Nat.reduceSub, Nat.reduceLeDiff, Nat.reduceBEq]) (by simp (decide := true) only [go_sem, reduceIte, reduceCtorEq, Nat.reduceEqDiff, Nat.reduceAdd, Nat.reduceMul, Nat.reduceSub, Nat.reduceLeDiff, Nat.reduceBEq]; exact hv) hvl) (by simp; omega) ?_)
      intro j'
      simp (decide := true) only [go_sem, reduceIte, reduceCtorEq, Nat.reduceEqDiff, Nat.reduceAdd, Nat.reduceMul, Nat.reduceSub, Nat.reduceLeDiff, Nat.reduceBEq]
      (repeat (first | (refine dw_seq ?_) | (refine dw_block ?_) | ((first | (refine dw_reg (N := 95) rfl (by kernel_rfl) ?_) | (apply dw_drw (id := 11) (N := 95) [(0, .light), (1, .light), (2, .light), (3, .light), (4, .light), (5, .light), (6, .light), (7, .light), (8, .step)]; kernel_rfl; rfl; kernel_rfl; (repeat (first | exact Picks.nil | (apply Picks.cons; rfl)))) | (apply dw_drw (id := 15) (N := 95) [(0, .light), (1, .light), (2, .light), (3, .light), (4, .light), (5, .light), (6, .light), (7, .light), (8, .step)]; kernel_rfl; rfl; kernel_rfl; (repeat (first | exact Picks.nil | (apply Picks.cons; rfl)))) | (refine dw_skip ?_) | (refine dw_exit ?_)); simp (decide := true) only [go_sem, reduceIte, reduceCtorEq, Nat.reduceEqDiff, Nat.reduceAdd, Nat.reduceMul, Nat.reduceSub, Nat.reduceLeDiff, Nat.reduceBEq])))
      refine dw_weaken (sub_mv 25 n hn2) ?_
      have k1 : KeepX n (fgts [n, 25]) := keepX_fgts2 n (by omega)
      have k2 : KeepX n (mvr 25 n) := keepX_mv1 n (by omega)
      have a1 := fun k => hF _ k k1
      have a2 := fun k => hF _ k k2
      have b1 := hR _ k1
      have b2 := hR _ k2
      have c1 := hV _ k1
      have c2 := hV _ k2
      refine dw_ret ?_; simp (decide := true) only [go_sem, reduceIte, reduceCtorEq, Nat.reduceEqDiff, Nat.reduceAdd, Nat.reduceMul, Nat.reduceSub, Nat.reduceLeDiff, Nat.reduceBEq, hne]
      refine ⟨j', rfl, ?_, fun k hk hkn => ?_⟩
      · simp (decide := true) only [go_sem, reduceIte, reduceCtorEq, Nat.reduceEqDiff, Nat.reduceAdd, Nat.reduceMul, Nat.reduceSub, Nat.reduceLeDiff, Nat.reduceBEq, hne, b1, b2, c1, c2]
        subst hie
        simp
      · have hk25 : ¬ k = 25 := by omega
        simp (decide := true) only [go_sem, reduceIte, reduceCtorEq, Nat.reduceEqDiff, Nat.reduceAdd, Nat.reduceMul, Nat.reduceSub, Nat.reduceLeDiff, Nat.reduceBEq, hne, hkn, hk25, a1, a2]
    · simp [hie]
end Go.Proofs.Ytffcabenoakmgaa

/- Contract of slices.Insert of one row, over memory of one's own (printed by gen_T11.py). -/
namespace Go.Proofs.Ytffcabenoakmgaa
open Go.Dl
attribute [local irreducible] DW DCalls ECalls wk

--F52
set_option maxRecDepth 10000 in
set_option maxHeartbeats 8000000 in
theorem insR_E (n q : Nat) (hn : 1000 ≤ n) (hn2 : n < 100000) (hq : NB ≤ q) (H : Mem) (hH : MemOk H) (rows : Dl.Rows) (j : Nat) (v : List T) (hr : H n = some (rows ++ anyRows j 2)) (hz : RowsSz 2 rows) (hv : H q = some [v]) (hvl : v.length = 2)
    (i : Nat) (hi : i ≤ rows.length) (hl : rows.length ≤ 100000) (hnm : ∀ k r, H k = some r → FixX n r) :
    ECalls Try.prog 52 [.one (.ba n 2 0 rows.length (rows.length + j)), dv (li i), .one (.ba q 2 0 1 1)] H
      (fun r H' => ∃ j', r = .one (.ba n 2 0 (rows.length + 1) (rows.length + 1 + j')) ∧ H' n = some (rows.take i ++ (v :: (rows.drop i ++ anyRows j' 2))) ∧ ∀ k, 1000 ≤ k → k ≠ n → H' k = H k) := by
  have hNB := NB_big
  have hmax : (1000000 : Nat) < maxLen := by simp [maxLen]
  have hmidn : mid n := ⟨hn, by omega⟩
  have hqn : q ≠ n := by omega
  have hqm : ¬ mid q := fun e => by have := e.2; omega
  have hne : ∀ k, k < 1000 → (n = k) = False := fun k hk => by simp; omega
  have hqe : ∀ k, k < 1000 → (q = k) = False := fun k hk => by simp; omega
  have hqne : (q = n) = False := by simp [hqn]
  have hF : ∀ (r : Ren) (k : Nat), KeepX n r → (H k).map (Dl.Rows.tr r) = H k := fun r k hk => by
    cases hc : H k with
    | none => rfl
    | some x => simp only [Option.map_some, hnm k x hc r hk]
  have hR : ∀ r, KeepX n r → Dl.Rows.tr r rows = rows := fun r hk => (hnm n _ hr).append_l r hk
  have hV : ∀ r, KeepX n r → T.trAll r v = v := fun r hk => by
    have := hnm q _ hv r hk
    simp only [Rows.tr_cons, Rows.tr_nil, List.cons.injEq, and_true] at this
    exact this
  have le1 : (0 : Nat) ≤ i := Nat.zero_le _
  have hlj : rows.length ≤ rows.length + j := by omega
  have hib : i ≤ rows.length + j := by omega
  have hz2 : RowsSz 2 (rows ++ anyRows j 2) := fun r hr => (List.mem_append.1 hr).elim (hz r) (anyRows_sz j 2 r)
  refine ecalls (N := 95) (rs := [.tmp 6]) (by kernel_rfl) Try.func52 rfl rfl rfl (by simp) ?_
  rcases Nat.lt_or_ge i rows.length with hlt | hge
  · have he : ((i : Int) == (rows.length : Int)) = false := by simp; omega
    have hw1 : IntKind.i64.wrap ((rows.length : Int) + 1) = ((rows.length + 1 : Nat) : Int) := by rw [wrap_i64 (by omega) (by omega)]; rfl
    have hw2 : IntKind.i64.wrap (((rows.length + 1 : Nat) : Int) - (i : Int)) = ((rows.length + 1 - i : Nat) : Int) := by rw [wrap_i64 (by omega) (by omega)]; omega
    have hw3 : IntKind.i64.wrap ((i : Int) + 1) = ((i + 1 : Nat) : Int) := by rw [wrap_i64 (by omega) (by omega)]; rfl
    (repeat (first | (refine dw_seq ?_) | (refine dw_block ?_) | ((first | (refine dw_reg (N := 95) rfl (by kernel_rfl) ?_) | (apply dw_drw (id := 11) (N := 95) [(0, .light), (1, .light), (2, .light), (3, .light), (4, .light), (5, .light), (6, .light), (7, .light), (8, .step)]; kernel_rfl; rfl; kernel_rfl; (repeat (first | exact Picks.nil | (apply Picks.cons; rfl)))) | (apply dw_drw (id := 15) (N := 95) [(0, .light), (1, .light), (2, .light), (3, .light), (4, .light), (5, .light), (6, .light), (7, .light), (8, .step)]; kernel_rfl; rfl; kernel_rfl; (repeat (first | exact Picks.nil | (apply Picks.cons; rfl)))) | (refine dw_skip ?_) | (refine dw_exit ?_)); simp (decide := true) only [go_sem, reduceIte, reduceCtorEq, Nat.reduceEqDiff, Nat.reduceAdd, Nat.reduceMul, Nat.reduceSub, Nat.reduceLeDiff, Nat.reduceBEq, hi, hib, hlj, he])))
    apply dw_cond; (simp (decide := true) only [go_sem, reduceIte, reduceCtorEq, Nat.reduceEqDiff, Nat.reduceAdd, Nat.reduceMul, Nat.reduceSub, Nat.reduceLeDiff, Nat.reduceBEq]; rfl)
    · simp
    intro _
    (repeat (first | (refine dw_seq ?_) | (refine dw_block ?_) | ((first | (refine dw_reg (N := 95) rfl (by kernel_rfl) ?_) | (apply dw_drw (id := 11) (N := 95) [(0, .light), (1, .light), (2, .light), (3, .light), (4, .light), (5, .light), (6, .light), (7, .light), (8, .step)]; kernel_rfl; rfl; kernel_rfl; (repeat (first | exact Picks.nil | (apply Picks.cons; rfl)))) | (apply dw_drw (id := 15) (N := 95) [(0, .light), (1, .light), (2, .light), (3, .light), (4, .light), (5, .light), (6, .light), (7, .light), (8, .step)]; kernel_rfl; rfl; kernel_rfl; (repeat (first | exact Picks.nil | (apply Picks.cons; rfl)))) | (refine dw_skip ?_) | (refine dw_exit ?_)); simp (decide := true) only [go_sem, reduceIte, reduceCtorEq, Nat.reduceEqDiff, Nat.reduceAdd, Nat.reduceMul, Nat.reduceSub, Nat.reduceLeDiff, Nat.reduceBEq, hi, hib, hlj, he])))
    apply dw_cond; (simp (decide := true) only [go_sem, reduceIte, reduceCtorEq, Nat.reduceEqDiff, Nat.reduceAdd, Nat.reduceMul, Nat.reduceSub, Nat.reduceLeDiff, Nat.reduceBEq]; rfl)
    · simp
    intro _
    rcases Nat.eq_zero_or_pos j with hj0 | hj0
    · have hg : decide (((rows.length + j : Nat) : Int) < ((rows.length + 1 : Nat) : Int)) = true := by simp; omega
      (repeat (first | (refine dw_seq ?_) | (refine dw_block ?_) | ((first | (refine dw_reg (N := 95) rfl (by kernel_rfl) ?_) | (apply dw_drw (id := 11) (N := 95) [(0, .light), (1, .light), (2, .light), (3, .light), (4, .light), (5, .light), (6, .light), (7, .light), (8, .step)]; kernel_rfl; rfl; kernel_rfl; (repeat (first | exact Picks.nil | (apply Picks.cons; rfl)))) | (apply dw_drw (id := 15) (N := 95) [(0, .light), (1, .light), (2, .light), (3, .light), (4, .light), (5, .light), (6, .light), (7, .light), (8, .step)]; kernel_rfl; rfl; kernel_rfl; (repeat (first | exact Picks.nil | (apply Picks.cons; rfl)))) | (refine dw_skip ?_) | (refine dw_exit ?_)); simp (decide := true) only [go_sem, reduceIte, reduceCtorEq, Nat.reduceEqDiff, Nat.reduceAdd, Nat.reduceMul, Nat.reduceSub, Nat.reduceLeDiff, Nat.reduceBEq, hi, hib, hlj, he, hw1, hg])))
      apply dw_cond; (simp (decide := true) only [go_sem, reduceIte, reduceCtorEq, Nat.reduceEqDiff, Nat.reduceAdd, Nat.reduceMul, Nat.reduceSub, Nat.reduceLeDiff, Nat.reduceBEq]; rfl)
      · intro _
        have hik : i + (rows.length + 1 - i) = rows.length + 1 := by omega
        have h0i := Nat.zero_le i
        (repeat (first | (refine dw_seq ?_) | (refine dw_block ?_) | ((first | (refine dw_reg (N := 95) rfl (by kernel_rfl) ?_) | (apply dw_drw (id := 11) (N := 95) [(0, .light), (1, .light), (2, .light), (3, .light), (4, .light), (5, .light), (6, .light), (7, .light), (8, .step)]; kernel_rfl; rfl; kernel_rfl; (repeat (first | exact Picks.nil | (apply Picks.cons; rfl)))) | (apply dw_drw (id := 15) (N := 95) [(0, .light), (1, .light), (2, .light), (3, .light), (4, .light), (5, .light), (6, .light), (7, .light), (8, .step)]; kernel_rfl; rfl; kernel_rfl; (repeat (first | exact Picks.nil | (apply Picks.cons; rfl)))) | (refine dw_skip ?_) | (refine dw_exit ?_)); simp (decide := true) only [go_sem, reduceIte, reduceCtorEq, Nat.reduceEqDiff, Nat.reduceAdd, Nat.reduceMul, Nat.reduceSub, Nat.reduceLeDiff, Nat.reduceBEq, hi, hib, hlj, he, hw1, hw2, h0i, Nat.sub_zero])))
        refine StepC.mk (Step.appendMkList (kd := .i64) (n := n) (rows := rows ++ anyRows j 2) (i := 0) (len := i) (cap := rows.length + j) (k := rows.length + 1 - i) (sz := 2) (by_ := 40) rfl rfl (by simp (decide := true) only [go_sem, reduceIte, reduceCtorEq, Nat.reduceEqDiff, Nat.reduceAdd, Nat.reduceMul, Nat.reduceSub, Nat.reduceLeDiff, Nat.reduceBEq]) (by simp (decide := true) only [go_sem, reduceIte, reduceCtorEq, Nat.reduceEqDiff, Nat.reduceAdd, Nat.reduceMul, Nat.reduceSub, Nat.reduceLeDiff, Nat.reduceBEq]) (by simp (decide := true) only [go_sem, reduceIte, reduceCtorEq, Nat.reduceEqDiff, Nat.reduceAdd, Nat.reduceMul, Nat.reduceSub, Nat.reduceLeDiff, Nat.reduceBEq]) (by simp (decide := true) only [go_sem, reduceIte, reduceCtorEq, Nat.reduceEqDiff, Nat.reduceAdd, Nat.reduceMul, Nat.reduceSub, Nat.reduceLeDiff, Nat.reduceBEq]) (by simp (decide := true) only [go_sem, reduceIte, reduceCtorEq, Nat.reduceEqDiff, Nat.reduceAdd, Nat.reduceMul, Nat.reduceSub, Nat.reduceLeDiff, Nat.reduceBEq]; exact hr) (by simp [anyRows_len]) hz2 (by omega) (by omega) (by omega) (by omega) ?_)
        intro j'
        have hik2 : i ≤ rows.length + 1 := by omega
        have hlj2 : rows.length + 1 ≤ rows.length + 1 + j' := by omega
        have ht0 : ((rows ++ anyRows j 2).drop 0).take i = rows.take i := by rw [List.drop_zero, List.take_append_of_le_length hi]
        have k1 : KeepX n (fgt 40) := keepX_fgt1 n (by omega)
        have b1 : Dl.Rows.tr (fgt 40) (rows.take i) = rows.take i := by rw [tr_take, hR _ k1]
        have a1 := fun k => hF _ k k1
        simp only [ht0, hik]
        simp (decide := true) only [go_sem, reduceIte, reduceCtorEq, Nat.reduceEqDiff, Nat.reduceAdd, Nat.reduceMul, Nat.reduceSub, Nat.reduceLeDiff, Nat.reduceBEq, hne]
        (repeat (first | (refine dw_seq ?_) | (refine dw_block ?_) | ((first | (refine dw_reg (N := 95) rfl (by kernel_rfl) ?_) | (apply dw_drw (id := 11) (N := 95) [(0, .light), (1, .light), (2, .light), (3, .light), (4, .light), (5, .light), (6, .light), (7, .light), (8, .step)]; kernel_rfl; rfl; kernel_rfl; (repeat (first | exact Picks.nil | (apply Picks.cons; rfl)))) | (apply dw_drw (id := 15) (N := 95) [(0, .light), (1, .light), (2, .light), (3, .light), (4, .light), (5, .light), (6, .light), (7, .light), (8, .step)]; kernel_rfl; rfl; kernel_rfl; (repeat (first | exact Picks.nil | (apply Picks.cons; rfl)))) | (refine dw_skip ?_) | (refine dw_exit ?_)); simp (decide := true) only [go_sem, reduceIte, reduceCtorEq, Nat.reduceEqDiff, Nat.reduceAdd, Nat.reduceMul, Nat.reduceSub, Nat.reduceLeDiff, Nat.reduceBEq, hne, hik2, hlj2])))
        have hzt : RowsSz 2 (rows.take i ++ anyRows (rows.length + 1 - i + j') 2) := fun r hr => (List.mem_append.1 hr).elim (fun h => hz r (List.mem_of_mem_take h)) (anyRows_sz _ 2 r)
        have hzt2 : RowsSz 2 (rows.take i ++ v :: anyRows (rows.length - i + j') 2) := fun r hr => by
          simp only [List.mem_append, List.mem_cons] at hr
          rcases hr with h | rfl | h
          · exact hz r (List.mem_of_mem_take h)
          · exact hvl
          · exact anyRows_sz _ 2 r h
        have hti : (rows.take i).length = i := by simp; omega
        refine StepC.mk (Step.copyTo (n := 40) (sz := 2) (i := i) (len := rows.length + 1 - i) (cap := rows.length + 1 + j' - i) (ys := [v]) (rows := rows.take i ++ anyRows (rows.length + 1 - i + j') 2) (rows' := rows.take i ++ v :: anyRows (rows.length - i + j') 2) (c := 1)
          rfl (by simp (decide := true) only [go_sem, reduceIte, reduceCtorEq, Nat.reduceEqDiff, Nat.reduceAdd, Nat.reduceMul, Nat.reduceSub, Nat.reduceLeDiff, Nat.reduceBEq]) (by simp (decide := true) only [go_sem, reduceIte, reduceCtorEq, Nat.reduceEqDiff, Nat.reduceAdd, Nat.reduceMul, Nat.reduceSub, Nat.reduceLeDiff, Nat.reduceBEq, hne]) (by simp (decide := true) only [go_sem, reduceIte, reduceCtorEq, Nat.reduceEqDiff, Nat.reduceAdd, Nat.reduceMul, Nat.reduceSub, Nat.reduceLeDiff, Nat.reduceBEq, hne, b1]) (by simp only [List.length_append, anyRows_len, hti]; omega) hzt (srcOne (n := q) (by simp (decide := true) only [go_sem, reduceIte, reduceCtorEq, Nat.reduceEqDiff, Nat.reduceAdd, Nat.reduceMul, Nat.reduceSub, Nat.reduceLeDiff, Nat.reduceBEq, hqe, hqm]) (by simp (decide := true) only [go_sem, reduceIte, reduceCtorEq, Nat.reduceEqDiff, Nat.reduceAdd, Nat.reduceMul, Nat.reduceSub, Nat.reduceLeDiff, Nat.reduceBEq, hqe, a1]; exact hv) hvl) (by simp <;> omega) (ins_grow1 rows v i j' 2 hlt) ?_)
        have hi1 : i + 1 ≤ rows.length + 1 := by omega
        simp (decide := true) only [go_sem, reduceIte, reduceCtorEq, Nat.reduceEqDiff, Nat.reduceAdd, Nat.reduceMul, Nat.reduceSub, Nat.reduceLeDiff, Nat.reduceBEq, hne]
        (repeat (first | (refine dw_seq ?_) | (refine dw_block ?_) | ((first | (refine dw_reg (N := 95) rfl (by kernel_rfl) ?_) | (apply dw_drw (id := 11) (N := 95) [(0, .light), (1, .light), (2, .light), (3, .light), (4, .light), (5, .light), (6, .light), (7, .light), (8, .step)]; kernel_rfl; rfl; kernel_rfl; (repeat (first | exact Picks.nil | (apply Picks.cons; rfl)))) | (apply dw_drw (id := 15) (N := 95) [(0, .light), (1, .light), (2, .light), (3, .light), (4, .light), (5, .light), (6, .light), (7, .light), (8, .step)]; kernel_rfl; rfl; kernel_rfl; (repeat (first | exact Picks.nil | (apply Picks.cons; rfl)))) | (refine dw_skip ?_) | (refine dw_exit ?_)); simp (decide := true) only [go_sem, reduceIte, reduceCtorEq, Nat.reduceEqDiff, Nat.reduceAdd, Nat.reduceMul, Nat.reduceSub, Nat.reduceLeDiff, Nat.reduceBEq, hne, hw3, hi1, hlj2, hi, hlj])))
        refine StepC.mk (Step.copyTo (n := 40) (sz := 2) (i := i + 1) (len := rows.length + 1 - (i + 1)) (cap := rows.length + 1 + j' - (i + 1)) (ys := rows.drop i) (rows := rows.take i ++ v :: anyRows (rows.length - i + j') 2) (rows' := rows.take i ++ (v :: (rows.drop i ++ anyRows j' 2))) (c := rows.length - i)
          rfl (by simp (decide := true) only [go_sem, reduceIte, reduceCtorEq, Nat.reduceEqDiff, Nat.reduceAdd, Nat.reduceMul, Nat.reduceSub, Nat.reduceLeDiff, Nat.reduceBEq]) (by simp (decide := true) only [go_sem, reduceIte, reduceCtorEq, Nat.reduceEqDiff, Nat.reduceAdd, Nat.reduceMul, Nat.reduceSub, Nat.reduceLeDiff, Nat.reduceBEq, hne]) (by simp (decide := true) only [go_sem, reduceIte, reduceCtorEq, Nat.reduceEqDiff, Nat.reduceAdd, Nat.reduceMul, Nat.reduceSub, Nat.reduceLeDiff, Nat.reduceBEq, hne]) (by simp only [List.length_append, List.length_cons, anyRows_len, hti]; omega) hzt2
          (srcBa (n := n) (i := i) (len := rows.length - i) (cap := rows.length + j - i) (rows := rows ++ anyRows j 2) (by simp (decide := true) only [go_sem, reduceIte, reduceCtorEq, Nat.reduceEqDiff, Nat.reduceAdd, Nat.reduceMul, Nat.reduceSub, Nat.reduceLeDiff, Nat.reduceBEq, hne]) (by simp (decide := true) only [go_sem, reduceIte, reduceCtorEq, Nat.reduceEqDiff, Nat.reduceAdd, Nat.reduceMul, Nat.reduceSub, Nat.reduceLeDiff, Nat.reduceBEq, hne, a1]; exact hr) (by simp only [List.length_append, anyRows_len]; omega) hz2 (by rw [List.drop_append_of_le_length hi, List.take_append_of_le_length (by simp), List.take_of_length_le (by simp)])) (by simp <;> omega) (ins_grow2 rows v i j' 2 hlt) ?_)
        simp (decide := true) only [go_sem, reduceIte, reduceCtorEq, Nat.reduceEqDiff, Nat.reduceAdd, Nat.reduceMul, Nat.reduceSub, Nat.reduceLeDiff, Nat.reduceBEq, hne]
        (repeat (first | (refine dw_seq ?_) | (refine dw_block ?_) | ((first | (refine dw_reg (N := 95) rfl (by kernel_rfl) ?_) | (apply dw_drw (id := 11) (N := 95) [(0, .light), (1, .light), (2, .light), (3, .light), (4, .light), (5, .light), (6, .light), (7, .light), (8, .step)]; kernel_rfl; rfl; kernel_rfl; (repeat (first | exact Picks.nil | (apply Picks.cons; rfl)))) | (apply dw_drw (id := 15) (N := 95) [(0, .light), (1, .light), (2, .light), (3, .light), (4, .light), (5, .light), (6, .light), (7, .light), (8, .step)]; kernel_rfl; rfl; kernel_rfl; (repeat (first | exact Picks.nil | (apply Picks.cons; rfl)))) | (refine dw_skip ?_) | (refine dw_exit ?_)); simp (decide := true) only [go_sem, reduceIte, reduceCtorEq, Nat.reduceEqDiff, Nat.reduceAdd, Nat.reduceMul, Nat.reduceSub, Nat.reduceLeDiff, Nat.reduceBEq, hne])))
        refine dw_weaken (sub_mv 40 n hn2) ?_
        have k2 : KeepX n (mvr 40 n) := keepX_mv1 n (by omega)
        have a2 := fun k => hF _ k k2
        have b2 : Dl.Rows.tr (mvr 40 n) (rows.take i) = rows.take i := by rw [tr_take, hR _ k2]
        have b3 : Dl.Rows.tr (mvr 40 n) (rows.drop i) = rows.drop i := by rw [tr_drop, hR _ k2]
        have c2 := hV _ k2
        refine dw_ret ?_; simp (decide := true) only [go_sem, reduceIte, reduceCtorEq, Nat.reduceEqDiff, Nat.reduceAdd, Nat.reduceMul, Nat.reduceSub, Nat.reduceLeDiff, Nat.reduceBEq, hne]
        refine ⟨j', rfl, ?_, fun k hk hkn => ?_⟩
        · simp (decide := true) only [go_sem, reduceIte, reduceCtorEq, Nat.reduceEqDiff, Nat.reduceAdd, Nat.reduceMul, Nat.reduceSub, Nat.reduceLeDiff, Nat.reduceBEq, hne, b2, b3, c2]
        · have hk40 : ¬ k = 40 := by omega
          simp (decide := true) only [go_sem, reduceIte, reduceCtorEq, Nat.reduceEqDiff, Nat.reduceAdd, Nat.reduceMul, Nat.reduceSub, Nat.reduceLeDiff, Nat.reduceBEq, hne, hkn, hk40, a1, a2]
      · simp
    · have hg : decide (((rows.length + j : Nat) : Int) < ((rows.length + 1 : Nat) : Int)) = false := by simp; omega
      (repeat (first | (refine dw_seq ?_) | (refine dw_block ?_) | ((first | (refine dw_reg (N := 95) rfl (by kernel_rfl) ?_) | (apply dw_drw (id := 11) (N := 95) [(0, .light), (1, .light), (2, .light), (3, .light), (4, .light), (5, .light), (6, .light), (7, .light), (8, .step)]; kernel_rfl; rfl; kernel_rfl; (repeat (first | exact Picks.nil | (apply Picks.cons; rfl)))) | (apply dw_drw (id := 15) (N := 95) [(0, .light), (1, .light), (2, .light), (3, .light), (4, .light), (5, .light), (6, .light), (7, .light), (8, .step)]; kernel_rfl; rfl; kernel_rfl; (repeat (first | exact Picks.nil | (apply Picks.cons; rfl)))) | (refine dw_skip ?_) | (refine dw_exit ?_)); simp (decide := true) only [go_sem, reduceIte, reduceCtorEq, Nat.reduceEqDiff, Nat.reduceAdd, Nat.reduceMul, Nat.reduceSub, Nat.reduceLeDiff, Nat.reduceBEq, hi, hib, hlj, he, hw1, hg])))
      apply dw_cond; (simp (decide := true) only [go_sem, reduceIte, reduceCtorEq, Nat.reduceEqDiff, Nat.reduceAdd, Nat.reduceMul, Nat.reduceSub, Nat.reduceLeDiff, Nat.reduceBEq]; rfl)
      · simp
      intro _
      have hj1 : rows.length + 1 ≤ rows.length + j := by omega
      have h0l := Nat.zero_le (rows.length + 1)
      have hi1 : i + 1 ≤ rows.length + 1 := by omega
      (repeat (first | (refine dw_seq ?_) | (refine dw_block ?_) | ((first | (refine dw_reg (N := 95) rfl (by kernel_rfl) ?_) | (apply dw_drw (id := 11) (N := 95) [(0, .light), (1, .light), (2, .light), (3, .light), (4, .light), (5, .light), (6, .light), (7, .light), (8, .step)]; kernel_rfl; rfl; kernel_rfl; (repeat (first | exact Picks.nil | (apply Picks.cons; rfl)))) | (apply dw_drw (id := 15) (N := 95) [(0, .light), (1, .light), (2, .light), (3, .light), (4, .light), (5, .light), (6, .light), (7, .light), (8, .step)]; kernel_rfl; rfl; kernel_rfl; (repeat (first | exact Picks.nil | (apply Picks.cons; rfl)))) | (refine dw_skip ?_) | (refine dw_exit ?_)); simp (decide := true) only [go_sem, reduceIte, reduceCtorEq, Nat.reduceEqDiff, Nat.reduceAdd, Nat.reduceMul, Nat.reduceSub, Nat.reduceLeDiff, Nat.reduceBEq, hi, hib, hlj, he, hw1, hw3, hj1, h0l, Nat.sub_zero, hi1])))
      refine CallC.step (Step.overlaps (t := 26) (tr := 4) (q := q) (sz := 2) (m := 1) (rowsq := [v]) (n := n) (i := i + 1) (len := rows.length + 1 - (i + 1)) (cap := rows.length + j - (i + 1)) (rows := rows ++ anyRows j 2) rfl (by simp (decide := true) only [go_sem, reduceIte, reduceCtorEq, Nat.reduceEqDiff, Nat.reduceAdd, Nat.reduceMul, Nat.reduceSub, Nat.reduceLeDiff, Nat.reduceBEq]) Try.func59 (by kernel_rfl) (by kernel_rfl) (by kernel_rfl) (by kernel_rfl) Try.underlying26 (inf := Try.t50) (by kernel_rfl)
        (by simp (decide := true) only [go_sem, reduceIte, reduceCtorEq, Nat.reduceEqDiff, Nat.reduceAdd, Nat.reduceMul, Nat.reduceSub, Nat.reduceLeDiff, Nat.reduceBEq]) (by simp (decide := true) only [go_sem, reduceIte, reduceCtorEq, Nat.reduceEqDiff, Nat.reduceAdd, Nat.reduceMul, Nat.reduceSub, Nat.reduceLeDiff, Nat.reduceBEq]; exact hv) (by simp) (by omega) (by omega) (by simp (decide := true) only [go_sem, reduceIte, reduceCtorEq, Nat.reduceEqDiff, Nat.reduceAdd, Nat.reduceMul, Nat.reduceSub, Nat.reduceLeDiff, Nat.reduceBEq]) (by simp (decide := true) only [go_sem, reduceIte, reduceCtorEq, Nat.reduceEqDiff, Nat.reduceAdd, Nat.reduceMul, Nat.reduceSub, Nat.reduceLeDiff, Nat.reduceBEq]; exact hr) (fun e => by have := congrArg List.length e; simp [anyRows_len] at this; omega) hz2 (by omega) hqn ?_)
      simp (decide := true) only [go_sem, reduceIte, reduceCtorEq, Nat.reduceEqDiff, Nat.reduceAdd, Nat.reduceMul, Nat.reduceSub, Nat.reduceLeDiff, Nat.reduceBEq]
      (repeat (first | (refine dw_seq ?_) | (refine dw_block ?_) | ((first | (refine dw_reg (N := 95) rfl (by kernel_rfl) ?_) | (apply dw_drw (id := 11) (N := 95) [(0, .light), (1, .light), (2, .light), (3, .light), (4, .light), (5, .light), (6, .light), (7, .light), (8, .step)]; kernel_rfl; rfl; kernel_rfl; (repeat (first | exact Picks.nil | (apply Picks.cons; rfl)))) | (apply dw_drw (id := 15) (N := 95) [(0, .light), (1, .light), (2, .light), (3, .light), (4, .light), (5, .light), (6, .light), (7, .light), (8, .step)]; kernel_rfl; rfl; kernel_rfl; (repeat (first | exact Picks.nil | (apply Picks.cons; rfl)))) | (refine dw_skip ?_) | (refine dw_exit ?_)); simp (decide := true) only [go_sem, reduceIte, reduceCtorEq, Nat.reduceEqDiff, Nat.reduceAdd, Nat.reduceMul, Nat.reduceSub, Nat.reduceLeDiff, Nat.reduceBEq])))
      apply dw_cond; (simp (decide := true) only [go_sem, reduceIte, reduceCtorEq, Nat.reduceEqDiff, Nat.reduceAdd, Nat.reduceMul, Nat.reduceSub, Nat.reduceLeDiff, Nat.reduceBEq]; rfl)
      · intro _
        have hi2 : i ≤ rows.length + 1 := by omega
        have hRl : rows.length + j = (rows ++ anyRows j 2).length := by simp [anyRows_len]
        have hzr : RowsSz 2 (rows.take (i + 1) ++ (rows.drop i ++ anyRows (j - 1) 2)) := fun r hr => by
          simp only [List.mem_append] at hr
          rcases hr with h | h | h
          · exact hz r (List.mem_of_mem_take h)
          · exact hz r (List.mem_of_mem_drop h)
          · exact anyRows_sz _ 2 r h
        (repeat (first | (refine dw_seq ?_) | (refine dw_block ?_) | ((first | (refine dw_reg (N := 95) rfl (by kernel_rfl) ?_) | (apply dw_drw (id := 11) (N := 95) [(0, .light), (1, .light), (2, .light), (3, .light), (4, .light), (5, .light), (6, .light), (7, .light), (8, .step)]; kernel_rfl; rfl; kernel_rfl; (repeat (first | exact Picks.nil | (apply Picks.cons; rfl)))) | (apply dw_drw (id := 15) (N := 95) [(0, .light), (1, .light), (2, .light), (3, .light), (4, .light), (5, .light), (6, .light), (7, .light), (8, .step)]; kernel_rfl; rfl; kernel_rfl; (repeat (first | exact Picks.nil | (apply Picks.cons; rfl)))) | (refine dw_skip ?_) | (refine dw_exit ?_)); simp (decide := true) only [go_sem, reduceIte, reduceCtorEq, Nat.reduceEqDiff, Nat.reduceAdd, Nat.reduceMul, Nat.reduceSub, Nat.reduceLeDiff, Nat.reduceBEq, hi, hib, hlj, he, hw1, hw3, hj1, h0l, Nat.sub_zero, hi1, hi2])))
        refine StepC.mk (Step.copyTo (n := n) (sz := 2) (i := i + 1) (len := rows.length + 1 - (i + 1)) (cap := rows.length + j - (i + 1)) (ys := ((rows ++ anyRows j 2).drop i).take (rows.length + 1 - i)) (rows := rows ++ anyRows j 2) (rows' := rows.take (i + 1) ++ (rows.drop i ++ anyRows (j - 1) 2)) (c := rows.length - i)
          rfl (by simp (decide := true) only [go_sem, reduceIte, reduceCtorEq, Nat.reduceEqDiff, Nat.reduceAdd, Nat.reduceMul, Nat.reduceSub, Nat.reduceLeDiff, Nat.reduceBEq]) (by simp (decide := true) only [go_sem, reduceIte, reduceCtorEq, Nat.reduceEqDiff, Nat.reduceAdd, Nat.reduceMul, Nat.reduceSub, Nat.reduceLeDiff, Nat.reduceBEq]) (by simp (decide := true) only [go_sem, reduceIte, reduceCtorEq, Nat.reduceEqDiff, Nat.reduceAdd, Nat.reduceMul, Nat.reduceSub, Nat.reduceLeDiff, Nat.reduceBEq]; exact hr) (by rw [← hRl]; omega) hz2
          (srcBa (n := n) (i := i) (len := rows.length + 1 - i) (cap := rows.length + j - i) (rows := rows ++ anyRows j 2) (by simp (decide := true) only [go_sem, reduceIte, reduceCtorEq, Nat.reduceEqDiff, Nat.reduceAdd, Nat.reduceMul, Nat.reduceSub, Nat.reduceLeDiff, Nat.reduceBEq]) (by simp (decide := true) only [go_sem, reduceIte, reduceCtorEq, Nat.reduceEqDiff, Nat.reduceAdd, Nat.reduceMul, Nat.reduceSub, Nat.reduceLeDiff, Nat.reduceBEq]; exact hr) (by rw [← hRl]; omega) hz2 rfl) (by simp [anyRows_len]; omega) (ins_room1 rows i j 2 hlt hj0) ?_)
        simp (decide := true) only [go_sem, reduceIte, reduceCtorEq, Nat.reduceEqDiff, Nat.reduceAdd, Nat.reduceMul, Nat.reduceSub, Nat.reduceLeDiff, Nat.reduceBEq]
        (repeat (first | (refine dw_seq ?_) | (refine dw_block ?_) | ((first | (refine dw_reg (N := 95) rfl (by kernel_rfl) ?_) | (apply dw_drw (id := 11) (N := 95) [(0, .light), (1, .light), (2, .light), (3, .light), (4, .light), (5, .light), (6, .light), (7, .light), (8, .step)]; kernel_rfl; rfl; kernel_rfl; (repeat (first | exact Picks.nil | (apply Picks.cons; rfl)))) | (apply dw_drw (id := 15) (N := 95) [(0, .light), (1, .light), (2, .light), (3, .light), (4, .light), (5, .light), (6, .light), (7, .light), (8, .step)]; kernel_rfl; rfl; kernel_rfl; (repeat (first | exact Picks.nil | (apply Picks.cons; rfl)))) | (refine dw_skip ?_) | (refine dw_exit ?_)); simp (decide := true) only [go_sem, reduceIte, reduceCtorEq, Nat.reduceEqDiff, Nat.reduceAdd, Nat.reduceMul, Nat.reduceSub, Nat.reduceLeDiff, Nat.reduceBEq, hi, hib, hlj, he, hw1, hw3, hj1, h0l, Nat.sub_zero, hi1, hi2])))
        have hti : (rows.take (i + 1)).length = i + 1 := by simp; omega
        refine StepC.mk (Step.copyTo (n := n) (sz := 2) (i := i) (len := rows.length + 1 - i) (cap := rows.length + j - i) (ys := [v]) (rows := rows.take (i + 1) ++ (rows.drop i ++ anyRows (j - 1) 2)) (rows' := rows.take i ++ (v :: (rows.drop i ++ anyRows (j - 1) 2))) (c := 1)
          rfl (by simp (decide := true) only [go_sem, reduceIte, reduceCtorEq, Nat.reduceEqDiff, Nat.reduceAdd, Nat.reduceMul, Nat.reduceSub, Nat.reduceLeDiff, Nat.reduceBEq]) (by simp (decide := true) only [go_sem, reduceIte, reduceCtorEq, Nat.reduceEqDiff, Nat.reduceAdd, Nat.reduceMul, Nat.reduceSub, Nat.reduceLeDiff, Nat.reduceBEq]) (by simp (decide := true) only [go_sem, reduceIte, reduceCtorEq, Nat.reduceEqDiff, Nat.reduceAdd, Nat.reduceMul, Nat.reduceSub, Nat.reduceLeDiff, Nat.reduceBEq]) (by simp only [List.length_append, List.length_drop, anyRows_len, hti]; omega) hzr (srcOne (n := q) (by simp (decide := true) only [go_sem, reduceIte, reduceCtorEq, Nat.reduceEqDiff, Nat.reduceAdd, Nat.reduceMul, Nat.reduceSub, Nat.reduceLeDiff, Nat.reduceBEq]) (by simp (decide := true) only [go_sem, reduceIte, reduceCtorEq, Nat.reduceEqDiff, Nat.reduceAdd, Nat.reduceMul, Nat.reduceSub, Nat.reduceLeDiff, Nat.reduceBEq, hqne]; exact hv) hvl) (by simp <;> omega) (ins_room2 rows v i (j - 1) 2 hlt) ?_)
        simp (decide := true) only [go_sem, reduceIte, reduceCtorEq, Nat.reduceEqDiff, Nat.reduceAdd, Nat.reduceMul, Nat.reduceSub, Nat.reduceLeDiff, Nat.reduceBEq]
        (repeat (first | (refine dw_seq ?_) | (refine dw_block ?_) | ((first | (refine dw_reg (N := 95) rfl (by kernel_rfl) ?_) | (apply dw_drw (id := 11) (N := 95) [(0, .light), (1, .light), (2, .light), (3, .light), (4, .light), (5, .light), (6, .light), (7, .light), (8, .step)]; kernel_rfl; rfl; kernel_rfl; (repeat (first | exact Picks.nil | (apply Picks.cons; rfl)))) | (apply dw_drw (id := 15) (N := 95) [(0, .light), (1, .light), (2, .light), (3, .light), (4, .light), (5, .light), (6, .light), (7, .light), (8, .step)]; kernel_rfl; rfl; kernel_rfl; (repeat (first | exact Picks.nil | (apply Picks.cons; rfl)))) | (refine dw_skip ?_) | (refine dw_exit ?_)); simp (decide := true) only [go_sem, reduceIte, reduceCtorEq, Nat.reduceEqDiff, Nat.reduceAdd, Nat.reduceMul, Nat.reduceSub, Nat.reduceLeDiff, Nat.reduceBEq])))
        refine dw_ret ?_; simp (decide := true) only [go_sem, reduceIte, reduceCtorEq, Nat.reduceEqDiff, Nat.reduceAdd, Nat.reduceMul, Nat.reduceSub, Nat.reduceLeDiff, Nat.reduceBEq]
        have hjj : rows.length + 1 + (j - 1) = rows.length + j := by omega
        refine ⟨j - 1, by rw [hjj], ?_, fun k hk hkn => ?_⟩
        · simp (decide := true) only [go_sem, reduceIte, reduceCtorEq, Nat.reduceEqDiff, Nat.reduceAdd, Nat.reduceMul, Nat.reduceSub, Nat.reduceLeDiff, Nat.reduceBEq]
        · simp (decide := true) only [go_sem, reduceIte, reduceCtorEq, Nat.reduceEqDiff, Nat.reduceAdd, Nat.reduceMul, Nat.reduceSub, Nat.reduceLeDiff, Nat.reduceBEq, hkn]
      · simp
  · have hie : i = rows.length := by omega
    have he : ((i : Int) == (rows.length : Int)) = true := by simp; omega
    (repeat (first | (refine dw_seq ?_) | (refine dw_block ?_) | ((first | (refine dw_reg (N := 95) rfl (by kernel_rfl) ?_) | (apply dw_drw (id := 11) (N := 95) [(0, .light), (1, .light), (2, .light), (3, .light), (4, .light), (5, .light), (6, .light), (7, .light), (8, .step)]; kernel_rfl; rfl; kernel_rfl; (repeat (first | exact Picks.nil | (apply Picks.cons; rfl)))) | (apply dw_drw (id := 15) (N := 95) [(0, .light), (1, .light), (2, .light), (3, .light), (4, .light), (5, .light), (6, .light), (7, .light), (8, .step)]; kernel_rfl; rfl; kernel_rfl; (repeat (first | exact Picks.nil | (apply Picks.cons; rfl)))) | (refine dw_skip ?_) | (refine dw_exit ?_)); simp (decide := true) only [go_sem, reduceIte, reduceCtorEq, Nat.reduceEqDiff, Nat.reduceAdd, Nat.reduceMul, Nat.reduceSub, Nat.reduceLeDiff, Nat.reduceBEq, hi, hib, hlj, he])))
    apply dw_cond; (simp (decide := true) only [go_sem, reduceIte, reduceCtorEq, Nat.reduceEqDiff, Nat.reduceAdd, Nat.reduceMul, Nat.reduceSub, Nat.reduceLeDiff, Nat.reduceBEq]; rfl)
    · simp
    intro _
    (repeat (first | (refine dw_seq ?_) | (refine dw_block ?_) | ((first | (refine dw_reg (N := 95) rfl (by kernel_rfl) ?_) | (apply dw_drw (id := 11) (N := 95) [(0, .light), (1, .light), (2, .light), (3, .light), (4, .light), (5, .light), (6, .light), (7, .light), (8, .step)]; kernel_rfl; rfl; kernel_rfl; (repeat (first | exact Picks.nil | (apply Picks.cons; rfl)))) | (apply dw_drw (id := 15) (N := 95) [(0, .light), (1, .light), (2, .light), (3, .light), (4, .light), (5, .light), (6, .light), (7, .light), (8, .step)]; kernel_rfl; rfl; kernel_rfl; (repeat (first | exact Picks.nil | (apply Picks.cons; rfl)))) | (refine dw_skip ?_) | (refine dw_exit ?_)); simp (decide := true) only [go_sem, reduceIte, reduceCtorEq, Nat.reduceEqDiff, Nat.reduceAdd, Nat.reduceMul, Nat.reduceSub, Nat.reduceLeDiff, Nat.reduceBEq, hi, hib, hlj, he])))
    apply dw_cond; (simp (decide := true) only [go_sem, reduceIte, reduceCtorEq, Nat.reduceEqDiff, Nat.reduceAdd, Nat.reduceMul, Nat.reduceSub, Nat.reduceLeDiff, Nat.reduceBEq]; rfl)
    · intro _
      (repeat (first | (refine dw_seq ?_) | (refine dw_block ?_) | ((first | (refine dw_reg (N := 95) rfl (by kernel_rfl) ?_) | (apply dw_drw (id := 11) (N := 95) [(0, .light), (1, .light), (2, .light), (3, .light), (4, .light), (5, .light), (6, .light), (7, .light), (8, .step)]; kernel_rfl; rfl; kernel_rfl; (repeat (first | exact Picks.nil | (apply Picks.cons; rfl)))) | (apply dw_drw (id := 15) (N := 95) [(0, .light), (1, .light), (2, .light), (3, .light), (4, .light), (5, .light), (6, .light), (7, .light), (8, .step)]; kernel_rfl; rfl; kernel_rfl; (repeat (first | exact Picks.nil | (apply Picks.cons; rfl)))) | (refine dw_skip ?_) | (refine dw_exit ?_)); simp (decide := true) only [go_sem, reduceIte, reduceCtorEq, Nat.reduceEqDiff, Nat.reduceAdd, Nat.reduceMul, Nat.reduceSub, Nat.reduceLeDiff, Nat.reduceBEq, hi, hib, hlj, he])))
      refine StepC.mk (Step.appendList (n := n) (rows := rows) (ys := [v]) (j := j) (sz := 2) (by_ := 40) rfl rfl (by simp (decide := true) only [go_sem, reduceIte, reduceCtorEq, Nat.reduceEqDiff, Nat.reduceAdd, Nat.reduceMul, Nat.reduceSub, Nat.reduceLeDiff, Nat.reduceBEq]) (by simp (decide := true) only [go_sem, reduceIte, reduceCtorEq, Nat.reduceEqDiff, Nat.reduceAdd, Nat.reduceMul, Nat.reduceSub, Nat.reduceLeDiff, Nat.reduceBEq]) (by simp (decide := true) only [go_sem, reduceIte, reduceCtorEq, Nat.reduceEqDiff, Nat.reduceAdd, Nat.reduceMul, Nat.reduceSub, Nat.reduceLeDiff, Nat.reduceBEq]; exact hr) hz (srcOne (n := q) (by simp (decide := true) only [go_sem, reduceIte, reduceCtorEq, Nat.reduceEqDiff, Nat.reduceAdd, Nat.reduceMul, Nat.reduceSub, Nat.reduceLeDiff, Nat.reduceBEq]) (by simp (decide := true) only [go_sem, reduceIte, reduceCtorEq, Nat.reduceEqDiff, Nat.reduceAdd, Nat.reduceMul, Nat.reduceSub, Nat.reduceLeDiff, Nat.reduceBEq]; exact hv) hvl) (by simp; omega) ?_)
      intro j'
      simp (decide := true) only [go_sem, reduceIte, reduceCtorEq, Nat.reduceEqDiff, Nat.reduceAdd, Nat.reduceMul, Nat.reduceSub, Nat.reduceLeDiff, Nat.reduceBEq]
      (repeat (first | (refine dw_seq ?_) | (refine dw_block ?_) | ((first | (refine dw_reg (N := 95) rfl (by kernel_rfl) ?_) | (apply dw_drw (id := 11) (N := 95) [(0, .light), (1, .light), (2, .light), (3, .light), (4, .light), (5, .light), (6, .light), (7, .light), (8, .step)]; kernel_rfl; rfl; kernel_rfl; (repeat (first | exact Picks.nil | (apply Picks.cons; rfl)))) | (apply dw_drw (id := 15) (N := 95) [(0, .light), (1, .light), (2, .light), (3, .light), (4, .light), (5, .light), (6, .light), (7, .light), (8, .step)]; kernel_rfl; rfl; kernel_rfl; (repeat (first | exact Picks.nil | (apply Picks.cons; rfl)))) | (refine dw_skip ?_) | (refine dw_exit ?_)); simp (decide := true) only [go_sem, reduceIte, reduceCtorEq, Nat.reduceEqDiff, Nat.reduceAdd, Nat.reduceMul, Nat.reduceSub, Nat.reduceLeDiff, Nat.reduceBEq])))
      refine dw_weaken (sub_mv 25 n hn2) ?_
      have k1 : KeepX n (fgts [n, 25]) := keepX_fgts2 n (by omega)
      have k2 : KeepX n (mvr 25 n) := keepX_mv1 n (by omega)
      have a1 := fun k => hF _ k k1
      have a2 := fun k => hF _ k k2
      have b1 := hR _ k1
      have b2 := hR _ k2
      have c1 := hV _ k1
      have c2 := hV _ k2
      refine dw_ret ?_; simp (decide := true) only [go_sem, reduceIte, reduceCtorEq, Nat.reduceEqDiff, Nat.reduceAdd, Nat.reduceMul, Nat.reduceSub, Nat.reduceLeDiff, Nat.reduceBEq, hne]
      refine ⟨j', rfl, ?_, fun k hk hkn => ?_⟩
      · simp (decide := true) only [go_sem, reduceIte, reduceCtorEq, Nat.reduceEqDiff, Nat.reduceAdd, Nat.reduceMul, Nat.reduceSub, Nat.reduceLeDiff, Nat.reduceBEq, hne, b1, b2, c1, c2]
        subst hie
        simp
      · have hk25 : ¬ k = 25 := by omega
        simp (decide := true) only [go_sem, reduceIte, reduceCtorEq, Nat.reduceEqDiff, Nat.reduceAdd, Nat.reduceMul, Nat.reduceSub, Nat.reduceLeDiff, Nat.reduceBEq, hne, hkn, hk25, a1, a2]
    · simp [hie]
end Go.Proofs.Ytffcabenoakmgaa

/- Contracts of slices.Delete of one element, over memory of one's own. -/
namespace Go.Proofs.Ytffcabenoakmgaa
open Go.Dl
attribute [local irreducible] DW DCalls ECalls wk

theorem del_1 (rows : Dl.Rows) (i j sz : Nat) (hi : i < rows.length) :
    (rows ++ anyRows j sz).take (0 + i) ++ ((((rows ++ anyRows j sz).drop (i + 1)).take (rows.length - (i + 1))) ++ (rows ++ anyRows j sz).drop (0 + i + (((rows ++ anyRows j sz).drop (i + 1)).take (rows.length - (i + 1))).length)) =
      rows.take i ++ (rows.drop (i + 1) ++ (rows.drop (rows.length - 1) ++ anyRows j sz)) := by
  have e1 : ((rows ++ anyRows j sz).drop (i + 1)).take (rows.length - (i + 1)) = rows.drop (i + 1) := by
    rw [List.drop_append_of_le_length (by omega), List.take_append_of_le_length (by simp), List.take_of_length_le (by simp)]
  have e2 : 0 + i + (rows.drop (i + 1)).length = rows.length - 1 := by simp; omega
  rw [e1, e2, Nat.zero_add, List.take_append_of_le_length (by omega), List.drop_append_of_le_length (by omega)]

theorem del_2 (rows : Dl.Rows) (i j sz : Nat) (hi : i < rows.length) :
    (rows.take i ++ (rows.drop (i + 1) ++ (rows.drop (rows.length - 1) ++ anyRows j sz))).take (rows.length - 1) ++ (anyRows 1 sz ++ (rows.take i ++ (rows.drop (i + 1) ++ (rows.drop (rows.length - 1) ++ anyRows j sz))).drop (rows.length - 1 + 1)) =
      rows.take i ++ (rows.drop (i + 1) ++ anyRows (j + 1) sz) := by
  rw [← List.append_assoc (rows.take i) (rows.drop (i + 1)) (anyRows (j + 1) sz)]
  have h1 : (rows.take i ++ rows.drop (i + 1)).length = rows.length - 1 := by simp; omega
  have h2 : (rows.drop (rows.length - 1)).length = 1 := by simp; omega
  have h0 : rows.take i ++ (rows.drop (i + 1) ++ (rows.drop (rows.length - 1) ++ anyRows j sz)) = (rows.take i ++ rows.drop (i + 1)) ++ (rows.drop (rows.length - 1) ++ anyRows j sz) := by simp
  rw [h0]
  generalize rows.take i ++ rows.drop (i + 1) = A at h1
  rw [List.take_append_of_le_length (by omega), List.take_of_length_le (by omega), List.drop_append, h1]
  have h3 : A.drop (rows.length - 1 + 1) = [] := List.drop_eq_nil_of_le (by omega)
  have h4 : rows.length - 1 + 1 - (rows.length - 1) = 1 := by omega
  rw [h3, h4, List.drop_append, h2]
  have h5 : (rows.drop (rows.length - 1)).drop 1 = [] := List.drop_eq_nil_of_le (by omega)
  rw [h5]
  have h6 : anyRows 1 sz ++ anyRows j sz = anyRows (j + 1) sz := by
    simp only [anyRows, List.replicate_append_replicate]; rw [Nat.add_comm]
  simp only [List.nil_append, Nat.sub_self, List.drop_zero, h6]

--F55
set_option maxRecDepth 10000 in
set_option maxHeartbeats 8000000 in
theorem delP_E (n : Nat) (hn : 1000 ≤ n) (H : Mem) (rows : Dl.Rows) (j : Nat) (hr : H n = some (rows ++ anyRows j 3)) (hz : RowsSz 3 rows)
    (i : Nat) (hi : i < rows.length) (hl : rows.length ≤ 100000) :
    ECalls Try.prog 55 [.one (.ba n 3 0 rows.length (rows.length + j)), dv (li i), dv (li (i + 1 : Nat))] H
      (fun r H' => r = .one (.ba n 3 0 (rows.length - 1) (rows.length + j)) ∧ H' n = some (rows.take i ++ (rows.drop (i + 1) ++ anyRows (j + 1) 3)) ∧ ∀ k, 1000 ≤ k → k ≠ n → H' k = H k) := by
  have hmax : (1000000 : Nat) < maxLen := by simp [maxLen]
  have hz2 : RowsSz 3 (rows ++ anyRows j 3) := fun r hr => (List.mem_append.1 hr).elim (hz r) (anyRows_sz j 3 r)
  have f1 : i ≤ i + 1 := by omega
  have f2 : i + 1 ≤ rows.length := by omega
  have f3 : rows.length ≤ rows.length + j := by omega
  have f4 : i ≤ rows.length + j := by omega
  have f5 := Nat.zero_le i
  have he : ((i : Int) == ((i + 1 : Nat) : Int)) = false := by simp; omega
  refine ecalls (N := 33) (rs := [.tmp 6]) (by kernel_rfl) Try.func55 rfl rfl rfl (by simp) ?_
  (repeat (first | (refine dw_seq ?_) | (refine dw_block ?_) | ((first | (refine dw_reg (N := 33) rfl (by kernel_rfl) ?_) | (apply dw_drw (id := 5) (N := 33) [(0, .light), (1, .light), (2, .light), (3, .light), (4, .light), (5, .light), (6, .step), (7, .light)]; kernel_rfl; rfl; kernel_rfl; (repeat (first | exact Picks.nil | (apply Picks.cons; rfl)))) | (refine dw_skip ?_) | (refine dw_exit ?_)); simp (decide := true) only [go_sem, reduceIte, reduceCtorEq, Nat.reduceEqDiff, Nat.reduceAdd, Nat.reduceMul, Nat.reduceSub, Nat.reduceLeDiff, Nat.reduceBEq, f1, f2, f3, f4, f5, he, Nat.sub_zero, Option.isSome_some])))
  apply dw_cond; (simp (decide := true) only [go_sem, reduceIte, reduceCtorEq, Nat.reduceEqDiff, Nat.reduceAdd, Nat.reduceMul, Nat.reduceSub, Nat.reduceLeDiff, Nat.reduceBEq]; rfl)
  · simp
  intro _
  (repeat (first | (refine dw_seq ?_) | (refine dw_block ?_) | ((first | (refine dw_reg (N := 33) rfl (by kernel_rfl) ?_) | (apply dw_drw (id := 5) (N := 33) [(0, .light), (1, .light), (2, .light), (3, .light), (4, .light), (5, .light), (6, .step), (7, .light)]; kernel_rfl; rfl; kernel_rfl; (repeat (first | exact Picks.nil | (apply Picks.cons; rfl)))) | (refine dw_skip ?_) | (refine dw_exit ?_)); simp (decide := true) only [go_sem, reduceIte, reduceCtorEq, Nat.reduceEqDiff, Nat.reduceAdd, Nat.reduceMul, Nat.reduceSub, Nat.reduceLeDiff, Nat.reduceBEq, f1, f2, f3, f4, f5, he, Nat.sub_zero])))
  have hys : (((rows ++ anyRows j 3).drop (i + 1)).take (rows.length - (i + 1))).length = rows.length - (i + 1) := by simp [anyRows_len]; omega
  have hil : i + (rows.length - (i + 1)) = rows.length - 1 := by omega
  refine StepC.mk (Step.appendRoom (n := n) (i := 0) (len := i) (cap := rows.length + j) (sz := 3) (by_ := 24) (rows := rows ++ anyRows j 3) (ys := ((rows ++ anyRows j 3).drop (i + 1)).take (rows.length - (i + 1))) rfl rfl (by simp (decide := true) only [go_sem, reduceIte, reduceCtorEq, Nat.reduceEqDiff, Nat.reduceAdd, Nat.reduceMul, Nat.reduceSub, Nat.reduceLeDiff, Nat.reduceBEq]) (by simp (decide := true) only [go_sem, reduceIte, reduceCtorEq, Nat.reduceEqDiff, Nat.reduceAdd, Nat.reduceMul, Nat.reduceSub, Nat.reduceLeDiff, Nat.reduceBEq]) (by simp (decide := true) only [go_sem, reduceIte, reduceCtorEq, Nat.reduceEqDiff, Nat.reduceAdd, Nat.reduceMul, Nat.reduceSub, Nat.reduceLeDiff, Nat.reduceBEq]; exact hr) (by simp [anyRows_len]) hz2
    (srcBa (n := n) (i := i + 1) (len := rows.length - (i + 1)) (cap := rows.length + j - (i + 1)) (rows := rows ++ anyRows j 3) (by simp (decide := true) only [go_sem, reduceIte, reduceCtorEq, Nat.reduceEqDiff, Nat.reduceAdd, Nat.reduceMul, Nat.reduceSub, Nat.reduceLeDiff, Nat.reduceBEq]) (by simp (decide := true) only [go_sem, reduceIte, reduceCtorEq, Nat.reduceEqDiff, Nat.reduceAdd, Nat.reduceMul, Nat.reduceSub, Nat.reduceLeDiff, Nat.reduceBEq]; exact hr) (by simp [anyRows_len]; omega) hz2 rfl) (by rw [hys]; omega) ?_)
  rw [del_1 rows i j 3 hi, hys, hil]
  have g1 : rows.length - 1 ≤ rows.length := by omega
  have g2 : rows.length - (rows.length - 1) = 1 := by omega
  simp (decide := true) only [go_sem, reduceIte, reduceCtorEq, Nat.reduceEqDiff, Nat.reduceAdd, Nat.reduceMul, Nat.reduceSub, Nat.reduceLeDiff, Nat.reduceBEq]
  (repeat (first | (refine dw_seq ?_) | (refine dw_block ?_) | ((first | (refine dw_reg (N := 33) rfl (by kernel_rfl) ?_) | (apply dw_drw (id := 5) (N := 33) [(0, .light), (1, .light), (2, .light), (3, .light), (4, .light), (5, .light), (6, .step), (7, .light)]; kernel_rfl; rfl; kernel_rfl; (repeat (first | exact Picks.nil | (apply Picks.cons; rfl)))) | (refine dw_skip ?_) | (refine dw_exit ?_)); simp (decide := true) only [go_sem, reduceIte, reduceCtorEq, Nat.reduceEqDiff, Nat.reduceAdd, Nat.reduceMul, Nat.reduceSub, Nat.reduceLeDiff, Nat.reduceBEq, f1, f2, f3, f4, f5, he, Nat.sub_zero, g1, g2])))
  have hzc : RowsSz 3 (rows.take i ++ (rows.drop (i + 1) ++ (rows.drop (rows.length - 1) ++ anyRows j 3))) := fun r hr => by
    simp only [List.mem_append] at hr
    rcases hr with h | h | h | h
    · exact hz r (List.mem_of_mem_take h)
    · exact hz r (List.mem_of_mem_drop h)
    · exact hz r (List.mem_of_mem_drop h)
    · exact anyRows_sz _ 3 r h
  refine StepC.mk (Step.clear (n := n) (sz := 3) (by_ := 24) (i := rows.length - 1) (len := 1) (cap := rows.length + j - (rows.length - 1)) (rows := rows.take i ++ (rows.drop (i + 1) ++ (rows.drop (rows.length - 1) ++ anyRows j 3))) rfl (by simp (decide := true) only [go_sem, reduceIte, reduceCtorEq, Nat.reduceEqDiff, Nat.reduceAdd, Nat.reduceMul, Nat.reduceSub, Nat.reduceLeDiff, Nat.reduceBEq]) (by simp (decide := true) only [go_sem, reduceIte, reduceCtorEq, Nat.reduceEqDiff, Nat.reduceAdd, Nat.reduceMul, Nat.reduceSub, Nat.reduceLeDiff, Nat.reduceBEq]) (by simp (decide := true) only [go_sem, reduceIte, reduceCtorEq, Nat.reduceEqDiff, Nat.reduceAdd, Nat.reduceMul, Nat.reduceSub, Nat.reduceLeDiff, Nat.reduceBEq]) (by simp [anyRows_len]; omega) hzc ?_)
  rw [del_2 rows i j 3 hi]
  simp (decide := true) only [go_sem, reduceIte, reduceCtorEq, Nat.reduceEqDiff, Nat.reduceAdd, Nat.reduceMul, Nat.reduceSub, Nat.reduceLeDiff, Nat.reduceBEq]
  (repeat (first | (refine dw_seq ?_) | (refine dw_block ?_) | ((first | (refine dw_reg (N := 33) rfl (by kernel_rfl) ?_) | (apply dw_drw (id := 5) (N := 33) [(0, .light), (1, .light), (2, .light), (3, .light), (4, .light), (5, .light), (6, .step), (7, .light)]; kernel_rfl; rfl; kernel_rfl; (repeat (first | exact Picks.nil | (apply Picks.cons; rfl)))) | (refine dw_skip ?_) | (refine dw_exit ?_)); simp (decide := true) only [go_sem, reduceIte, reduceCtorEq, Nat.reduceEqDiff, Nat.reduceAdd, Nat.reduceMul, Nat.reduceSub, Nat.reduceLeDiff, Nat.reduceBEq])))
  refine dw_ret ?_; simp (decide := true) only [go_sem, reduceIte, reduceCtorEq, Nat.reduceEqDiff, Nat.reduceAdd, Nat.reduceMul, Nat.reduceSub, Nat.reduceLeDiff, Nat.reduceBEq]
  exact fun k hk hkn => by simp (decide := true) only [go_sem, reduceIte, reduceCtorEq, Nat.reduceEqDiff, Nat.reduceAdd, Nat.reduceMul, Nat.reduceSub, Nat.reduceLeDiff, Nat.reduceBEq, hkn]

--F56
set_option maxRecDepth 10000 in
set_option maxHeartbeats 8000000 in
theorem delR_E (n : Nat) (hn : 1000 ≤ n) (H : Mem) (rows : Dl.Rows) (j : Nat) (hr : H n = some (rows ++ anyRows j 2)) (hz : RowsSz 2 rows)
    (i : Nat) (hi : i < rows.length) (hl : rows.length ≤ 100000) :
    ECalls Try.prog 56 [.one (.ba n 2 0 rows.length (rows.length + j)), dv (li i), dv (li (i + 1 : Nat))] H
      (fun r H' => r = .one (.ba n 2 0 (rows.length - 1) (rows.length + j)) ∧ H' n = some (rows.take i ++ (rows.drop (i + 1) ++ anyRows (j + 1) 2)) ∧ ∀ k, 1000 ≤ k → k ≠ n → H' k = H k) := by
  have hmax : (1000000 : Nat) < maxLen := by simp [maxLen]
  have hz2 : RowsSz 2 (rows ++ anyRows j 2) := fun r hr => (List.mem_append.1 hr).elim (hz r) (anyRows_sz j 2 r)
  have f1 : i ≤ i + 1 := by omega
  have f2 : i + 1 ≤ rows.length := by omega
  have f3 : rows.length ≤ rows.length + j := by omega
  have f4 : i ≤ rows.length + j := by omega
  have f5 := Nat.zero_le i
  have he : ((i : Int) == ((i + 1 : Nat) : Int)) = false := by simp; omega
  refine ecalls (N := 33) (rs := [.tmp 6]) (by kernel_rfl) Try.func56 rfl rfl rfl (by simp) ?_
  (repeat (first | (refine dw_seq ?_) | (refine dw_block ?_) | ((first | (refine dw_reg (N := 33) rfl (by kernel_rfl) ?_) | (apply dw_drw (id := 5) (N := 33) [(0, .light), (1, .light), (2, .light), (3, .light), (4, .light), (5, .light), (6, .step), (7, .light)]; kernel_rfl; rfl; kernel_rfl; (repeat (first | exact Picks.nil | (apply Picks.cons; rfl)))) | (refine dw_skip ?_) | (refine dw_exit ?_)); simp (decide := true) only [go_sem, reduceIte, reduceCtorEq, Nat.reduceEqDiff, Nat.reduceAdd, Nat.reduceMul, Nat.reduceSub, Nat.reduceLeDiff, Nat.reduceBEq, f1, f2, f3, f4, f5, he, Nat.sub_zero, Option.isSome_some])))
  apply dw_cond; (simp (decide := true) only [go_sem, reduceIte, reduceCtorEq, Nat.reduceEqDiff, Nat.reduceAdd, Nat.reduceMul, Nat.reduceSub, Nat.reduceLeDiff, Nat.reduceBEq]; rfl)
  · simp
  intro _
  (repeat (first | (refine dw_seq ?_) | (refine dw_block ?_) | ((first | (refine dw_reg (N := 33) rfl (by kernel_rfl) ?_) | (apply dw_drw (id := 5) (N := 33) [(0, .light), (1, .light), (2, .light), (3, .light), (4, .light), (5, .light), (6, .step), (7, .light)]; kernel_rfl; rfl; kernel_rfl; (repeat (first | exact Picks.nil | (apply Picks.cons; rfl)))) | (refine dw_skip ?_) | (refine dw_exit ?_)); simp (decide := true) only [go_sem, reduceIte, reduceCtorEq, Nat.reduceEqDiff, Nat.reduceAdd, Nat.reduceMul, Nat.reduceSub, Nat.reduceLeDiff, Nat.reduceBEq, f1, f2, f3, f4, f5, he, Nat.sub_zero])))
  have hys : (((rows ++ anyRows j 2).drop (i + 1)).take (rows.length - (i + 1))).length = rows.length - (i + 1) := by simp [anyRows_len]; omega
  have hil : i + (rows.length - (i + 1)) = rows.length - 1 := by omega
  refine StepC.mk (Step.appendRoom (n := n) (i := 0) (len := i) (cap := rows.length + j) (sz := 2) (by_ := 40) (rows := rows ++ anyRows j 2) (ys := ((rows ++ anyRows j 2).drop (i + 1)).take (rows.length - (i + 1))) rfl rfl (by simp (decide := true) only [go_sem, reduceIte, reduceCtorEq, Nat.reduceEqDiff, Nat.reduceAdd, Nat.reduceMul, Nat.reduceSub, Nat.reduceLeDiff, Nat.reduceBEq]) (by simp (decide := true) only [go_sem, reduceIte, reduceCtorEq, Nat.reduceEqDiff, Nat.reduceAdd, Nat.reduceMul, Nat.reduceSub, Nat.reduceLeDiff, Nat.reduceBEq]) (by simp (decide := true) only [go_sem, reduceIte, reduceCtorEq, Nat.reduceEqDiff, Nat.reduceAdd, Nat.reduceMul, Nat.reduceSub, Nat.reduceLeDiff, Nat.reduceBEq]; exact hr) (by simp [anyRows_len]) hz2
    (srcBa (n := n) (i := i + 1) (len := rows.length - (i + 1)) (cap := rows.length + j - (i + 1)) (rows := rows ++ anyRows j 2) (by simp (decide := true) only [go_sem, reduceIte, reduceCtorEq, Nat.reduceEqDiff, Nat.reduceAdd, Nat.reduceMul, Nat.reduceSub, Nat.reduceLeDiff, Nat.reduceBEq]) (by simp (decide := true) only [go_sem, reduceIte, reduceCtorEq, Nat.reduceEqDiff, Nat.reduceAdd, Nat.reduceMul, Nat.reduceSub, Nat.reduceLeDiff, Nat.reduceBEq]; exact hr) (by simp [anyRows_len]; omega) hz2 rfl) (by rw [hys]; omega) ?_)
  rw [del_1 rows i j 2 hi, hys, hil]
  have g1 : rows.length - 1 ≤ rows.length := by omega
  have g2 : rows.length - (rows.length - 1) = 1 := by omega
  simp (decide := true) only [go_sem, reduceIte, reduceCtorEq, Nat.reduceEqDiff, Nat.reduceAdd, Nat.reduceMul, Nat.reduceSub, Nat.reduceLeDiff, Nat.reduceBEq]
  (repeat (first | (refine dw_seq ?_) | (refine dw_block ?_) | ((first | (refine dw_reg (N := 33) rfl (by kernel_rfl) ?_) | (apply dw_drw (id := 5) (N := 33) [(0, .light), (1, .light), (2, .light), (3, .light), (4, .light), (5, .light), (6, .step), (7, .light)]; kernel_rfl; rfl; kernel_rfl; (repeat (first | exact Picks.nil | (apply Picks.cons; rfl)))) | (refine dw_skip ?_) | (refine dw_exit ?_)); simp (decide := true) only [go_sem, reduceIte, reduceCtorEq, Nat.reduceEqDiff, Nat.reduceAdd, Nat.reduceMul, Nat.reduceSub, Nat.reduceLeDiff, Nat.reduceBEq, f1, f2, f3, f4, f5, he, Nat.sub_zero, g1, g2])))
  have hzc : RowsSz 2 (rows.take i ++ (rows.drop (i + 1) ++ (rows.drop (rows.length - 1) ++ anyRows j 2))) := fun r hr => by
    simp only [List.mem_append] at hr
    rcases hr with h | h | h | h
    · exact hz r (List.mem_of_mem_take h)
    · exact hz r (List.mem_of_mem_drop h)
    · exact hz r (List.mem_of_mem_drop h)
    · exact anyRows_sz _ 2 r h
  refine StepC.mk (Step.clear (n := n) (sz := 2) (by_ := 40) (i := rows.length - 1) (len := 1) (cap := rows.length + j - (rows.length - 1)) (rows := rows.take i ++ (rows.drop (i + 1) ++ (rows.drop (rows.length - 1) ++ anyRows j 2))) rfl (by simp (decide := true) only [go_sem, reduceIte, reduceCtorEq, Nat.reduceEqDiff, Nat.reduceAdd, Nat.reduceMul, Nat.reduceSub, Nat.reduceLeDiff, Nat.reduceBEq]) (by simp (decide := true) only [go_sem, reduceIte, reduceCtorEq, Nat.reduceEqDiff, Nat.reduceAdd, Nat.reduceMul, Nat.reduceSub, Nat.reduceLeDiff, Nat.reduceBEq]) (by simp (decide := true) only [go_sem, reduceIte, reduceCtorEq, Nat.reduceEqDiff, Nat.reduceAdd, Nat.reduceMul, Nat.reduceSub, Nat.reduceLeDiff, Nat.reduceBEq]) (by simp [anyRows_len]; omega) hzc ?_)
  rw [del_2 rows i j 2 hi]
  simp (decide := true) only [go_sem, reduceIte, reduceCtorEq, Nat.reduceEqDiff, Nat.reduceAdd, Nat.reduceMul, Nat.reduceSub, Nat.reduceLeDiff, Nat.reduceBEq]
  (repeat (first | (refine dw_seq ?_) | (refine dw_block ?_) | ((first | (refine dw_reg (N := 33) rfl (by kernel_rfl) ?_) | (apply dw_drw (id := 5) (N := 33) [(0, .light), (1, .light), (2, .light), (3, .light), (4, .light), (5, .light), (6, .step), (7, .light)]; kernel_rfl; rfl; kernel_rfl; (repeat (first | exact Picks.nil | (apply Picks.cons; rfl)))) | (refine dw_skip ?_) | (refine dw_exit ?_)); simp (decide := true) only [go_sem, reduceIte, reduceCtorEq, Nat.reduceEqDiff, Nat.reduceAdd, Nat.reduceMul, Nat.reduceSub, Nat.reduceLeDiff, Nat.reduceBEq])))
  refine dw_ret ?_; simp (decide := true) only [go_sem, reduceIte, reduceCtorEq, Nat.reduceEqDiff, Nat.reduceAdd, Nat.reduceMul, Nat.reduceSub, Nat.reduceLeDiff, Nat.reduceBEq]
  exact fun k hk hkn => by simp (decide := true) only [go_sem, reduceIte, reduceCtorEq, Nat.reduceEqDiff, Nat.reduceAdd, Nat.reduceMul, Nat.reduceSub, Nat.reduceLeDiff, Nat.reduceBEq, hkn]
end Go.Proofs.Ytffcabenoakmgaa

/- Contract of slices.BinarySearchFunc of rows, over memory of one's own. -/
namespace Go.Proofs.Ytffcabenoakmgaa
open Go.Dl
attribute [local irreducible] DW DCalls ECalls wk

--F51
set_option maxRecDepth 10000 in
set_option maxHeartbeats 4000000 in
theorem bsR_E (n cap : Nat) (hn : 1000 ≤ n) (H : Mem) (hH : MemOk H) (rows : Dl.Rows) (hr : H n = some rows) (ps : List ByteArray) (p : ByteArray) (hps : ∀ (j : Nat) q, ps[j]? = some q → ∃ t, rows[j]? = some [.c (ls q), t]) (hl : ps.length ≤ 1000000) :
    ECalls Try.prog 51 [.one (.ba n 2 0 ps.length cap), .agg [.c (ls p), .ex 3 []], .one (.c (.fn 41 []))] H
      (fun r H' => (∃ i, BsOk (fun j => match ps[j]? with | some q => cmpS q p | none => 0) ps.length i ∧ r = .tup [dv (li i), dv (lb (decide (ps[i]?.map (fun q => cmpS q p) = some 0)))]) ∧ ∀ k, 1000 ≤ k → H' k = H k) := by
  have hmax : (1000000 : Nat) < maxLen := by simp [maxLen]
  have hne : ∀ k, k < 1000 → (n = k) = False := fun k hk => by simp; omega
  have hfg : ∀ (m k : Nat), m < 1000 → (H k).map (Dl.Rows.tr (fgt m)) = H k := fun m k hm => hH.fgt hm k
  refine ecalls (N := 49) (rs := [.tmp 6, .tmp 7]) (by kernel_rfl) Try.func51 rfl rfl rfl (by simp) ?_
  (repeat (first | (refine dw_seq ?_) | (refine dw_block ?_) | ((first | (refine dw_reg (N := 49) rfl (by kernel_rfl) ?_) | (apply dw_drw (id := 5) (N := 49) [(0, .light), (1, .light), (2, .light), (3, .light), (4, .light), (5, .light), (6, .step), (7, .light)]; kernel_rfl; rfl; kernel_rfl; (repeat (first | exact Picks.nil | (apply Picks.cons; rfl)))) | (apply dw_drw (id := 8) (N := 49) [(0, .light), (1, .light), (2, .light), (3, .light), (4, .light), (5, .light), (6, .light), (7, .light), (8, .light), (9, .light), (10, .light), (11, .light), (12, .light), (13, .light), (14, .light), (15, .light)]; kernel_rfl; rfl; kernel_rfl; (repeat (first | exact Picks.nil | (apply Picks.cons; rfl)))) | (refine dw_skip ?_) | (refine dw_exit ?_)); simp (decide := true) only [go_sem, reduceIte, reduceCtorEq, Nat.reduceEqDiff, Nat.reduceAdd, Nat.reduceMul, Nat.reduceSub, Nat.reduceLeDiff, Nat.reduceBEq, hne, hfg])))
  refine dw_loop_fam (fun x : Nat × Nat => kn 49 [(0, .one (.ba n 2 0 ps.length cap)), (2, .one (.c (.fn 41 []))), (4, .one (.bx 4 2 0 0)), (8, dv (li ps.length)), (9, dv (li x.1)), (10, dv (li x.2))] (fun k => if k = 4 then some [[.c (ls p), .ex 3 []]] else H k))
    (fun x => x.1 ≤ x.2 ∧ x.2 ≤ ps.length ∧ (0 < x.1 → (match ps[x.1 - 1]? with | some q => cmpS q p | none => 0) < 0) ∧ (x.2 < ps.length → 0 ≤ (match ps[x.2]? with | some q => cmpS q p | none => 0))) (fun x => x.2 - x.1) (0, ps.length)
    ?_ ⟨by omega, by omega, by simp, by simp⟩ ?_
  · refine sub_kn rfl (by simp (decide := true) only [go_sem, reduceIte, reduceCtorEq, Nat.reduceEqDiff, Nat.reduceAdd, Nat.reduceMul, Nat.reduceSub, Nat.reduceLeDiff, Nat.reduceBEq, hne]) ?_
    intro k r hk
    simp (decide := true) only [go_sem, reduceIte, reduceCtorEq, Nat.reduceEqDiff, Nat.reduceAdd, Nat.reduceMul, Nat.reduceSub, Nat.reduceLeDiff, Nat.reduceBEq, hfg]
    by_cases h4 : k = 4
    · rw [if_pos h4] at hk ⊢; rw [← hk]
    · rw [if_neg h4] at hk ⊢; exact hk
  rintro ⟨i, j⟩ ⟨h1, h2, h3, h4⟩
  simp only at h1 h2 h3 h4
  obtain ⟨w1, w2, w3, w4⟩ := half_facts i j (by omega)
  rcases Nat.lt_or_ge i j with hlt | hge
  · have hd : decide ((i : Int) < (j : Int)) = true := by simpa using hlt
    have hhl : (i + j) / 2 < ps.length := by omega
    obtain ⟨q, hq1⟩ : ∃ q, ps[(i + j) / 2]? = some q := ⟨ps[(i + j) / 2], List.getElem?_eq_getElem hhl⟩
    obtain ⟨tq, hq2⟩ := hps _ q hq1
    have hw := wrap_succ ((i + j) / 2) (by omega)
    (repeat (first | (refine dw_seq ?_) | (refine dw_block ?_) | ((first | (refine dw_reg (N := 49) rfl (by kernel_rfl) ?_) | (apply dw_drw (id := 5) (N := 49) [(0, .light), (1, .light), (2, .light), (3, .light), (4, .light), (5, .light), (6, .step), (7, .light)]; kernel_rfl; rfl; kernel_rfl; (repeat (first | exact Picks.nil | (apply Picks.cons; rfl)))) | (apply dw_drw (id := 8) (N := 49) [(0, .light), (1, .light), (2, .light), (3, .light), (4, .light), (5, .light), (6, .light), (7, .light), (8, .light), (9, .light), (10, .light), (11, .light), (12, .light), (13, .light), (14, .light), (15, .light)]; kernel_rfl; rfl; kernel_rfl; (repeat (first | exact Picks.nil | (apply Picks.cons; rfl)))) | (refine dw_skip ?_) | (refine dw_exit ?_)); simp (decide := true) only [go_sem, reduceIte, reduceCtorEq, Nat.reduceEqDiff, Nat.reduceAdd, Nat.reduceMul, Nat.reduceSub, Nat.reduceLeDiff, Nat.reduceBEq, hd, hne])))
    apply dw_cond; (simp (decide := true) only [go_sem, reduceIte, reduceCtorEq, Nat.reduceEqDiff, Nat.reduceAdd, Nat.reduceMul, Nat.reduceSub, Nat.reduceLeDiff, Nat.reduceBEq]; rfl)
    · intro _
      (repeat (first | (refine dw_seq ?_) | (refine dw_block ?_) | ((first | (refine dw_reg (N := 49) rfl (by kernel_rfl) ?_) | (apply dw_drw (id := 5) (N := 49) [(0, .light), (1, .light), (2, .light), (3, .light), (4, .light), (5, .light), (6, .step), (7, .light)]; kernel_rfl; rfl; kernel_rfl; (repeat (first | exact Picks.nil | (apply Picks.cons; rfl)))) | (apply dw_drw (id := 8) (N := 49) [(0, .light), (1, .light), (2, .light), (3, .light), (4, .light), (5, .light), (6, .light), (7, .light), (8, .light), (9, .light), (10, .light), (11, .light), (12, .light), (13, .light), (14, .light), (15, .light)]; kernel_rfl; rfl; kernel_rfl; (repeat (first | exact Picks.nil | (apply Picks.cons; rfl)))) | (refine dw_skip ?_) | (refine dw_exit ?_)); simp (decide := true) only [go_sem, reduceIte, reduceCtorEq, Nat.reduceEqDiff, Nat.reduceAdd, Nat.reduceMul, Nat.reduceSub, Nat.reduceLeDiff, Nat.reduceBEq, hne, w1, w2, w3, w4, hr, hq2, hhl])))
      (first | (refine CallC.mk (byGloss_D q p tq.cl (.sl 3 [])) (LeL.of_eq rfl) ?_) | (refine CallC.light (byGloss_D q p tq.cl (.sl 3 [])) (LeL.of_eq rfl) ?_)); simp (decide := true) only [go_sem, reduceIte, reduceCtorEq, Nat.reduceEqDiff, Nat.reduceAdd, Nat.reduceMul, Nat.reduceSub, Nat.reduceLeDiff, Nat.reduceBEq]
      apply dw_cond; (simp (decide := true) only [go_sem, reduceIte, reduceCtorEq, Nat.reduceEqDiff, Nat.reduceAdd, Nat.reduceMul, Nat.reduceSub, Nat.reduceLeDiff, Nat.reduceBEq]; rfl)
      · intro h5
        have h6 : cmpS q p < 0 := by simpa using h5
        (repeat (first | (refine dw_seq ?_) | (refine dw_block ?_) | ((first | (refine dw_reg (N := 49) rfl (by kernel_rfl) ?_) | (apply dw_drw (id := 5) (N := 49) [(0, .light), (1, .light), (2, .light), (3, .light), (4, .light), (5, .light), (6, .step), (7, .light)]; kernel_rfl; rfl; kernel_rfl; (repeat (first | exact Picks.nil | (apply Picks.cons; rfl)))) | (apply dw_drw (id := 8) (N := 49) [(0, .light), (1, .light), (2, .light), (3, .light), (4, .light), (5, .light), (6, .light), (7, .light), (8, .light), (9, .light), (10, .light), (11, .light), (12, .light), (13, .light), (14, .light), (15, .light)]; kernel_rfl; rfl; kernel_rfl; (repeat (first | exact Picks.nil | (apply Picks.cons; rfl)))) | (refine dw_skip ?_) | (refine dw_exit ?_)); simp (decide := true) only [go_sem, reduceIte, reduceCtorEq, Nat.reduceEqDiff, Nat.reduceAdd, Nat.reduceMul, Nat.reduceSub, Nat.reduceLeDiff, Nat.reduceBEq, hw])))
        refine ⟨((i + j) / 2 + 1, j), ⟨by simp only; omega, h2, fun _ => by simp only [Nat.add_sub_cancel, hq1]; exact h6, h4⟩, by simp only; omega, sub_kn rfl (by simp (decide := true) only [go_sem, reduceIte, reduceCtorEq, Nat.reduceEqDiff, Nat.reduceAdd, Nat.reduceMul, Nat.reduceSub, Nat.reduceLeDiff, Nat.reduceBEq]) (fun k r hk => ?_)⟩
        simp (decide := true) only [go_sem, reduceIte, reduceCtorEq, Nat.reduceEqDiff, Nat.reduceAdd, Nat.reduceMul, Nat.reduceSub, Nat.reduceLeDiff, Nat.reduceBEq]
        exact hk
      · intro h5
        have h6 : ¬ cmpS q p < 0 := by simpa using h5
        (repeat (first | (refine dw_seq ?_) | (refine dw_block ?_) | ((first | (refine dw_reg (N := 49) rfl (by kernel_rfl) ?_) | (apply dw_drw (id := 5) (N := 49) [(0, .light), (1, .light), (2, .light), (3, .light), (4, .light), (5, .light), (6, .step), (7, .light)]; kernel_rfl; rfl; kernel_rfl; (repeat (first | exact Picks.nil | (apply Picks.cons; rfl)))) | (apply dw_drw (id := 8) (N := 49) [(0, .light), (1, .light), (2, .light), (3, .light), (4, .light), (5, .light), (6, .light), (7, .light), (8, .light), (9, .light), (10, .light), (11, .light), (12, .light), (13, .light), (14, .light), (15, .light)]; kernel_rfl; rfl; kernel_rfl; (repeat (first | exact Picks.nil | (apply Picks.cons; rfl)))) | (refine dw_skip ?_) | (refine dw_exit ?_)); simp (decide := true) only [go_sem, reduceIte, reduceCtorEq, Nat.reduceEqDiff, Nat.reduceAdd, Nat.reduceMul, Nat.reduceSub, Nat.reduceLeDiff, Nat.reduceBEq])))
        refine ⟨(i, (i + j) / 2), ⟨by simp only; omega, by simp only; omega, h3, fun _ => by simp only [hq1]; omega⟩, by simp only; omega, sub_kn rfl (by simp (decide := true) only [go_sem, reduceIte, reduceCtorEq, Nat.reduceEqDiff, Nat.reduceAdd, Nat.reduceMul, Nat.reduceSub, Nat.reduceLeDiff, Nat.reduceBEq]) (fun k r hk => ?_)⟩
        simp (decide := true) only [go_sem, reduceIte, reduceCtorEq, Nat.reduceEqDiff, Nat.reduceAdd, Nat.reduceMul, Nat.reduceSub, Nat.reduceLeDiff, Nat.reduceBEq]
        exact hk
    · simp
  · have hij : i = j := by omega
    subst hij
    have hd : decide ((i : Int) < (i : Int)) = false := by simp
    (repeat (first | (refine dw_seq ?_) | (refine dw_block ?_) | ((first | (refine dw_reg (N := 49) rfl (by kernel_rfl) ?_) | (apply dw_drw (id := 5) (N := 49) [(0, .light), (1, .light), (2, .light), (3, .light), (4, .light), (5, .light), (6, .step), (7, .light)]; kernel_rfl; rfl; kernel_rfl; (repeat (first | exact Picks.nil | (apply Picks.cons; rfl)))) | (apply dw_drw (id := 8) (N := 49) [(0, .light), (1, .light), (2, .light), (3, .light), (4, .light), (5, .light), (6, .light), (7, .light), (8, .light), (9, .light), (10, .light), (11, .light), (12, .light), (13, .light), (14, .light), (15, .light)]; kernel_rfl; rfl; kernel_rfl; (repeat (first | exact Picks.nil | (apply Picks.cons; rfl)))) | (refine dw_skip ?_) | (refine dw_exit ?_)); simp (decide := true) only [go_sem, reduceIte, reduceCtorEq, Nat.reduceEqDiff, Nat.reduceAdd, Nat.reduceMul, Nat.reduceSub, Nat.reduceLeDiff, Nat.reduceBEq, hd, hne])))
    apply dw_cond; (simp (decide := true) only [go_sem, reduceIte, reduceCtorEq, Nat.reduceEqDiff, Nat.reduceAdd, Nat.reduceMul, Nat.reduceSub, Nat.reduceLeDiff, Nat.reduceBEq]; rfl)
    · simp
    intro _
    have hbs : BsOk (fun j => match ps[j]? with | some q => cmpS q p | none => 0) ps.length i := ⟨h2, h3, h4⟩
    rcases Nat.lt_or_ge i ps.length with hlt | hge
    · have hd : decide ((i : Int) < (ps.length : Int)) = true := by simpa using hlt
      obtain ⟨q, hq1⟩ : ∃ q, ps[i]? = some q := ⟨ps[i], List.getElem?_eq_getElem hlt⟩
      obtain ⟨tq, hq2⟩ := hps _ q hq1
      (repeat (first | (refine dw_seq ?_) | (refine dw_block ?_) | ((first | (refine dw_reg (N := 49) rfl (by kernel_rfl) ?_) | (apply dw_drw (id := 5) (N := 49) [(0, .light), (1, .light), (2, .light), (3, .light), (4, .light), (5, .light), (6, .step), (7, .light)]; kernel_rfl; rfl; kernel_rfl; (repeat (first | exact Picks.nil | (apply Picks.cons; rfl)))) | (apply dw_drw (id := 8) (N := 49) [(0, .light), (1, .light), (2, .light), (3, .light), (4, .light), (5, .light), (6, .light), (7, .light), (8, .light), (9, .light), (10, .light), (11, .light), (12, .light), (13, .light), (14, .light), (15, .light)]; kernel_rfl; rfl; kernel_rfl; (repeat (first | exact Picks.nil | (apply Picks.cons; rfl)))) | (refine dw_skip ?_) | (refine dw_exit ?_)); simp (decide := true) only [go_sem, reduceIte, reduceCtorEq, Nat.reduceEqDiff, Nat.reduceAdd, Nat.reduceMul, Nat.reduceSub, Nat.reduceLeDiff, Nat.reduceBEq, hd, hne, hr, hq2, hlt])))
      (first | (refine CallC.mk (byGloss_D q p tq.cl (.sl 3 [])) (LeL.of_eq rfl) ?_) | (refine CallC.light (byGloss_D q p tq.cl (.sl 3 [])) (LeL.of_eq rfl) ?_)); simp (decide := true) only [go_sem, reduceIte, reduceCtorEq, Nat.reduceEqDiff, Nat.reduceAdd, Nat.reduceMul, Nat.reduceSub, Nat.reduceLeDiff, Nat.reduceBEq]
      refine dw_ret ?_; simp (decide := true) only [go_sem, reduceIte, reduceCtorEq, Nat.reduceEqDiff, Nat.reduceAdd, Nat.reduceMul, Nat.reduceSub, Nat.reduceLeDiff, Nat.reduceBEq]
      exact ⟨⟨i, hbs, by simp [hq1, beq_eq_dec]⟩, fun k hk => by rw [if_neg (by omega)]⟩
    · have hd : decide ((i : Int) < (ps.length : Int)) = false := by simpa using hge
      have hnone : ps[i]? = none := List.getElem?_eq_none hge
      (repeat (first | (refine dw_seq ?_) | (refine dw_block ?_) | ((first | (refine dw_reg (N := 49) rfl (by kernel_rfl) ?_) | (apply dw_drw (id := 5) (N := 49) [(0, .light), (1, .light), (2, .light), (3, .light), (4, .light), (5, .light), (6, .step), (7, .light)]; kernel_rfl; rfl; kernel_rfl; (repeat (first | exact Picks.nil | (apply Picks.cons; rfl)))) | (apply dw_drw (id := 8) (N := 49) [(0, .light), (1, .light), (2, .light), (3, .light), (4, .light), (5, .light), (6, .light), (7, .light), (8, .light), (9, .light), (10, .light), (11, .light), (12, .light), (13, .light), (14, .light), (15, .light)]; kernel_rfl; rfl; kernel_rfl; (repeat (first | exact Picks.nil | (apply Picks.cons; rfl)))) | (refine dw_skip ?_) | (refine dw_exit ?_)); simp (decide := true) only [go_sem, reduceIte, reduceCtorEq, Nat.reduceEqDiff, Nat.reduceAdd, Nat.reduceMul, Nat.reduceSub, Nat.reduceLeDiff, Nat.reduceBEq, hd])))
      refine dw_ret ?_; simp (decide := true) only [go_sem, reduceIte, reduceCtorEq, Nat.reduceEqDiff, Nat.reduceAdd, Nat.reduceMul, Nat.reduceSub, Nat.reduceLeDiff, Nat.reduceBEq]
      exact ⟨⟨i, hbs, by simp [hnone]⟩, fun k hk => by rw [if_neg (by omega)]⟩
end Go.Proofs.Ytffcabenoakmgaa

/- Contracts of the sorted list of parts: put, take. -/
namespace Go.Proofs.Ytffcabenoakmgaa
open Go.Dl
attribute [local irreducible] DW DCalls ECalls wk

/-- What goes to a call that is handed the memory x, of these rows, beside the names between. -/
noncomputable def carry (x : Nat) (o : Option Dl.Rows) (H : Mem) : Mem := fun k => if k = x + NB then o else if mid k then H k else none

theorem carry_x (x : Nat) (o : Option Dl.Rows) (H : Mem) : carry x o H (x + NB) = o := by simp [carry]
theorem carry_mid {x k : Nat} {o : Option Dl.Rows} {H : Mem} (hk : mid k) : carry x o H k = H k := by
  have : ¬ k = x + NB := fun e => by have := hk.2; omega
  simp [carry, this, hk]
theorem carry_ok {x : Nat} {o : Option Dl.Rows} {H : Mem} (hH : MemOk H) (hm : ∀ r, o = some r → Dl.Rows.Mids r) : MemOk (carry x o H) := fun k r h => by
  have hNB := NB_big
  unfold carry at h
  split at h
  · exact ⟨by omega, hm r h⟩
  · split at h
    · exact hH k r h
    · cases h
theorem carry_fix {x K : Nat} {o : Option Dl.Rows} {H : Mem} (h1 : ∀ r, o = some r → FixX K r) (h2 : ∀ k r, mid k → H k = some r → FixX K r) : ∀ k r, carry x o H k = some r → FixX K r := fun k r h => by
  unfold carry at h
  split at h
  · exact h1 r h
  · split at h
    · rename_i hk; exact h2 k r hk h
    · cases h

theorem keeps_shf1 {x : Nat} (hx : ¬ mid x) : (shf [x]).Keeps := keeps_shf (by simpa using hx)

theorem carry_call {x : Nat} {o : Option Dl.Rows} {H bx : Mem} (hH : MemOk H) (hx : ¬ mid x) (h1 : bx x = o) (hm : ∀ r, o = some r → Dl.Rows.Mids r) (h2 : ∀ k, mid k → bx k = H k) : ∀ k r, carry x o H k = some r → callMem bx [x] k = some r := fun k r h => by
  unfold carry at h
  unfold callMem
  split at h
  · rename_i hk
    subst hk
    rw [if_pos ⟨by omega, by simp⟩, Nat.add_sub_cancel, h1, h, Option.map_some, Dl.Rows.tr_mids (keeps_shf1 hx) (hm r h)]
  · rename_i hk
    split at h
    · rename_i hkm
      have : ¬ (NB ≤ k ∧ k - NB ∈ [x]) := fun e => by have := hkm.2; omega
      rw [if_neg this, if_pos hkm, h2 k hkm, h, Option.map_some, Dl.Rows.tr_mids (keeps_shf1 hx) (hH k r h).2]
    · cases h

theorem aft_x {x : Nat} {o : Option Dl.Rows} {bx H' : Mem} {m : Option Nat} (hx : m ≠ some x) (hm : ∀ r, o = some r → Dl.Rows.Mids r) (h : H' (x + NB) = o) : callMemAft bx H' [x] m x = o := by
  simp only [callMemAft, hx, if_false, List.mem_singleton, if_true, h]
  cases o with
  | none => rfl
  | some r => simp only [Option.map_some, Dl.Rows.tr_mids keeps_usf (hm r rfl)]
theorem aft_out {x k : Nat} {bx H' : Mem} {m : Option Nat} (hk : ¬ mid k) (hx : k ≠ x) (hm : m ≠ some k) : callMemAft bx H' [x] m k = (bx k).map (Dl.Rows.tr (aft [x] m)) := by
  simp only [callMemAft, hm, if_false, List.mem_singleton, hx, hk]
theorem fix_c (n : Nat) (xs : List (List C)) : FixX n (xs.map (List.map T.c)) := fun r _ => Rows.tr_c r xs

theorem aft_mid {x k : Nat} {bx H' : Mem} {m : Option Nat} {o : Option Dl.Rows} (hk : mid k) (hx : k ≠ x) (hm : m ≠ some k) (h : H' k = o) (ho : ∀ r, o = some r → Dl.Rows.Mids r) : callMemAft bx H' [x] m k = o := by
  simp only [callMemAft, hm, if_false, List.mem_singleton, hx, hk, if_true, h]
  cases o with
  | none => rfl
  | some r => simp only [Option.map_some, Dl.Rows.tr_mids keeps_usf (ho r rfl)]

theorem aft_low {x k : Nat} {bx H' : Mem} {m : Option Nat} (hk : k < 1000) (hx : k ≠ x) (hm : m ≠ some k) : callMemAft bx H' [x] m k = (bx k).map (Dl.Rows.tr (aft [x] m)) := by
  have : ¬ mid k := notmid hk
  simp only [callMemAft, hm, if_false, List.mem_singleton, hx, this]

abbrev pRow (p : Part) : List T := p.enc.map T.c

theorem pRows_mids (ps : List Part) (j : Nat) : Dl.Rows.Mids (ps.map pRow ++ anyRows j 3) := Rows.mids_append (fun r hr => by
  obtain ⟨p, _, rfl⟩ := List.mem_map.1 hr
  exact midsAll_c _) (anyRows_mids j 3)
theorem pRows_sz (ps : List Part) : RowsSz 3 (ps.map pRow) := fun r hr => by
  obtain ⟨p, _, rfl⟩ := List.mem_map.1 hr
  rfl

/-- A part put into a list, at the place i. -/
def putAt (ps : List Part) (p : Part) (i : Nat) : List Part := if ps[i]?.map (fun q => cmpP q p) = some 0 then ps else ps.take i ++ p :: ps.drop i

def bsF (ps : List Part) (p : Part) : Nat → Int := fun j => match ps[j]? with | some q => cmpP q p | none => 0

--F44
set_option maxRecDepth 10000 in
set_option maxHeartbeats 8000000 in
theorem putP_E (x K : Nat) (hx : NB ≤ x) (hK : 1000 ≤ K) (hK2 : K < 100000) (H : Mem) (hH : MemOk H) (ps : List Part) (j : Nat) (p : Part) (hl : ps.length ≤ 10000)
    (hxr : H x = some [[.ba K 3 0 ps.length (ps.length + j), .c (.fn 35 [])]]) (hKr : H K = some (ps.map pRow ++ anyRows j 3)) (hfix : ∀ k r, H k = some r → k ≠ x → FixX K r) :
    ECalls Try.prog 44 [.one (.bx x 2 0 0), .agg (pRow p)] H
      (fun r H' => ∃ i j', BsOk (bsF ps p) ps.length i ∧ H' x = some [[.ba K 3 0 (putAt ps p i).length ((putAt ps p i).length + j'), .c (.fn 35 [])]] ∧ H' K = some ((putAt ps p i).map pRow ++ anyRows j' 3) ∧ ∀ k, mid k → k ≠ K → H' k = H k) := by
  have hNB := NB_big
  have hmax : (1000000 : Nat) < maxLen := by simp [maxLen]
  have hKm : mid K := ⟨hK, by omega⟩
  have hxm : ¬ mid x := notmidNB hx
  have hxK : ¬ x = K := by omega
  have hKx : ¬ K = x := by omega
  have hxlt : (x < NB) = False := by simp; omega
  have hKlt : (K < NB) = True := by simp; omega
  have hK1 : (1000 ≤ K) = True := by simp [hK]
  have hne : ∀ k, k < 1000 → (K = k) = False := fun k hk => by simp; omega
  have hxe : ∀ k, k < 1000 → (x = k) = False := fun k hk => by simp; omega
  have hxe2 : ∀ k, k < 1000 → (k = x) = False := fun k hk => by simp; omega
  have hfg : ∀ (m k : Nat), m < 1000 → (H k).map (Dl.Rows.tr (fgt m)) = H k := fun m k hm => hH.fgt hm k
  have hxM : ∀ r, H x = some r → Dl.Rows.Mids r := fun r hr => (hH x r hr).2
  refine ecalls (N := 34) (rs := [.tmp 4]) (by kernel_rfl) Try.func44 rfl rfl rfl (by simp) ?_
  (repeat (first | (refine dw_seq ?_) | (refine dw_block ?_) | ((first | (refine dw_reg (N := 34) rfl (by kernel_rfl) ?_) | (apply dw_drw (id := 1) (N := 34) [(0, .light), (1, .light), (2, .light), (3, .light), (4, .light), (5, .light), (6, .light), (7, .light), (8, .light), (9, .step), (10, .light), (11, .light), (12, .light), (13, .light), (14, .light)]; kernel_rfl; rfl; kernel_rfl; (repeat (first | exact Picks.nil | (apply Picks.cons; rfl)))) | (apply dw_drw (id := 3) (N := 34) [(0, .blind), (1, .blind), (2, .blind), (3, .blind), (5, .blind), (4, .look [29]), (6, .light), (7, .fresh), (8, .step), (9, .light), (10, .light), (11, .step)]; kernel_rfl; rfl; kernel_rfl; (repeat (first | exact Picks.nil | (apply Picks.cons; rfl)))) | (refine dw_skip ?_) | (refine dw_exit ?_)); simp (decide := true) only [go_sem, reduceIte, reduceCtorEq, Nat.reduceEqDiff, Nat.reduceAdd, Nat.reduceMul, Nat.reduceSub, Nat.reduceLeDiff, Nat.reduceBEq, Part.enc, hxe, hne, hfg, hxr, hxlt])))
  have hbs := bsP_E K (ps.length + j) hK (carry x (H x) H) (carry_ok hH hxM) (ps.map pRow ++ anyRows j 3) (by rw [carry_mid hKm, hKr]) ps p (fun q a hq => by rw [List.getElem?_append_left (by simp; exact (List.getElem?_eq_some_iff.1 hq).1), List.getElem?_map, hq]; rfl) (by omega)
  refine CallC.eff (caps := []) [x] hbs (by simp (decide := true) only [go_sem, reduceIte, reduceCtorEq, Nat.reduceEqDiff, Nat.reduceAdd, Nat.reduceMul, Nat.reduceSub, Nat.reduceLeDiff, Nat.reduceBEq]) (DLeL.of_eq (by simp (decide := true) only [go_sem, reduceIte, reduceCtorEq, Nat.reduceEqDiff, Nat.reduceAdd, Nat.reduceMul, Nat.reduceSub, Nat.reduceLeDiff, Nat.reduceBEq, hKx, hxlt, hKlt, hK1, Part.enc])) (carry_call hH hxm (by simp (decide := true) only [go_sem, reduceIte, reduceCtorEq, Nat.reduceEqDiff, Nat.reduceAdd, Nat.reduceMul, Nat.reduceSub, Nat.reduceLeDiff, Nat.reduceBEq, hxe, hfg]) hxM (fun k hk => ?_)) ⟨by simpa using hxm, fun m hm => by simp at hm; subst hm; simp; omega⟩ ?_
  · have hmk : ∀ m, m < 1000 → (k = m) = False := fun m hm => by simp; have := hk.1; omega
    simp (decide := true) only [go_sem, reduceIte, reduceCtorEq, Nat.reduceEqDiff, Nat.reduceAdd, Nat.reduceMul, Nat.reduceSub, Nat.reduceLeDiff, Nat.reduceBEq, hmk, hfg]
  rintro r H1 ⟨⟨i, hb, rfl⟩, h1⟩
  have g1 : H1 (x + NB) = H x := by rw [h1 _ (by omega), carry_x]
  have g2 : ∀ k, mid k → H1 k = H k := fun k hk => by rw [h1 k hk.1, carry_mid hk]
  have q1 : ∀ bx, callMemAft bx H1 [x] (some 17) x = H x := fun bx => aft_x (by simp; omega) hxM g1
  have q2 : ∀ bx k, mid k → callMemAft bx H1 [x] (some 17) k = H k := fun bx k hk => aft_mid hk (fun e => hxm (e ▸ hk)) (by simp; have := hk.1; omega) (g2 k hk) (fun r hr => (hH k r hr).2)
  have q3 : ∀ bx, callMemAft bx H1 [x] (some 17) 3 = (bx 3).map (Dl.Rows.tr (aft [x] (some 17))) := fun bx => aft_low (by omega) (by omega) (by simp)
  simp (decide := true) only [go_sem, reduceIte, reduceCtorEq, Nat.reduceEqDiff, Nat.reduceAdd, Nat.reduceMul, Nat.reduceSub, Nat.reduceLeDiff, Nat.reduceBEq, hxlt]
  (repeat (first | (refine dw_seq ?_) | (refine dw_block ?_) | ((first | (refine dw_reg (N := 34) rfl (by kernel_rfl) ?_) | (apply dw_drw (id := 1) (N := 34) [(0, .light), (1, .light), (2, .light), (3, .light), (4, .light), (5, .light), (6, .light), (7, .light), (8, .light), (9, .step), (10, .light), (11, .light), (12, .light), (13, .light), (14, .light)]; kernel_rfl; rfl; kernel_rfl; (repeat (first | exact Picks.nil | (apply Picks.cons; rfl)))) | (apply dw_drw (id := 3) (N := 34) [(0, .blind), (1, .blind), (2, .blind), (3, .blind), (5, .blind), (4, .look [29]), (6, .light), (7, .fresh), (8, .step), (9, .light), (10, .light), (11, .step)]; kernel_rfl; rfl; kernel_rfl; (repeat (first | exact Picks.nil | (apply Picks.cons; rfl)))) | (refine dw_skip ?_) | (refine dw_exit ?_)); simp (decide := true) only [go_sem, reduceIte, reduceCtorEq, Nat.reduceEqDiff, Nat.reduceAdd, Nat.reduceMul, Nat.reduceSub, Nat.reduceLeDiff, Nat.reduceBEq])))
  by_cases hf : ps[i]?.map (fun q => cmpP q p) = some 0
  · have hf' : decide (ps[i]?.map (fun q => cmpP q p) = some 0) = true := by simpa using hf
    apply dw_cond; (simp (decide := true) only [go_sem, reduceIte, reduceCtorEq, Nat.reduceEqDiff, Nat.reduceAdd, Nat.reduceMul, Nat.reduceSub, Nat.reduceLeDiff, Nat.reduceBEq, hf']; rfl)
    · simp
    intro _
    (repeat (first | (refine dw_seq ?_) | (refine dw_block ?_) | ((first | (refine dw_reg (N := 34) rfl (by kernel_rfl) ?_) | (apply dw_drw (id := 1) (N := 34) [(0, .light), (1, .light), (2, .light), (3, .light), (4, .light), (5, .light), (6, .light), (7, .light), (8, .light), (9, .step), (10, .light), (11, .light), (12, .light), (13, .light), (14, .light)]; kernel_rfl; rfl; kernel_rfl; (repeat (first | exact Picks.nil | (apply Picks.cons; rfl)))) | (apply dw_drw (id := 3) (N := 34) [(0, .blind), (1, .blind), (2, .blind), (3, .blind), (5, .blind), (4, .look [29]), (6, .light), (7, .fresh), (8, .step), (9, .light), (10, .light), (11, .step)]; kernel_rfl; rfl; kernel_rfl; (repeat (first | exact Picks.nil | (apply Picks.cons; rfl)))) | (refine dw_skip ?_) | (refine dw_exit ?_)); simp (decide := true) only [go_sem, reduceIte, reduceCtorEq, Nat.reduceEqDiff, Nat.reduceAdd, Nat.reduceMul, Nat.reduceSub, Nat.reduceLeDiff, Nat.reduceBEq])))
    refine dw_ret ?_; simp (decide := true) only [go_sem, reduceIte, reduceCtorEq, Nat.reduceEqDiff, Nat.reduceAdd, Nat.reduceMul, Nat.reduceSub, Nat.reduceLeDiff, Nat.reduceBEq, q1]
    have hpa : putAt ps p i = ps := by simp [putAt, hf]
    refine ⟨i, j, hb, by rw [hpa, hxr], ?_, fun k hk hkn => ?_⟩
    · rw [hpa, ← hKr]
      simp (decide := true) only [go_sem, reduceIte, reduceCtorEq, Nat.reduceEqDiff, Nat.reduceAdd, Nat.reduceMul, Nat.reduceSub, Nat.reduceLeDiff, Nat.reduceBEq, q2 _ K hKm]
    · have q4 := fun bx => q2 bx k hk
      simp (decide := true) only [go_sem, reduceIte, reduceCtorEq, Nat.reduceEqDiff, Nat.reduceAdd, Nat.reduceMul, Nat.reduceSub, Nat.reduceLeDiff, Nat.reduceBEq, q4]
  · have hf' : decide (ps[i]?.map (fun q => cmpP q p) = some 0) = false := by simpa using hf
    apply dw_cond; (simp (decide := true) only [go_sem, reduceIte, reduceCtorEq, Nat.reduceEqDiff, Nat.reduceAdd, Nat.reduceMul, Nat.reduceSub, Nat.reduceLeDiff, Nat.reduceBEq, hf']; rfl)
    · intro _
      (repeat (first | (refine dw_seq ?_) | (refine dw_block ?_) | ((first | (refine dw_reg (N := 34) rfl (by kernel_rfl) ?_) | (apply dw_drw (id := 1) (N := 34) [(0, .light), (1, .light), (2, .light), (3, .light), (4, .light), (5, .light), (6, .light), (7, .light), (8, .light), (9, .step), (10, .light), (11, .light), (12, .light), (13, .light), (14, .light)]; kernel_rfl; rfl; kernel_rfl; (repeat (first | exact Picks.nil | (apply Picks.cons; rfl)))) | (apply dw_drw (id := 3) (N := 34) [(0, .blind), (1, .blind), (2, .blind), (3, .blind), (5, .blind), (4, .look [29]), (6, .light), (7, .fresh), (8, .step), (9, .light), (10, .light), (11, .step)]; kernel_rfl; rfl; kernel_rfl; (repeat (first | exact Picks.nil | (apply Picks.cons; rfl)))) | (refine dw_skip ?_) | (refine dw_exit ?_)); simp (decide := true) only [go_sem, reduceIte, reduceCtorEq, Nat.reduceEqDiff, Nat.reduceAdd, Nat.reduceMul, Nat.reduceSub, Nat.reduceLeDiff, Nat.reduceBEq, hxe, hxe2, hxlt, q1, q3, hxr, Part.enc, hne])))
      have hpl : (ps.map pRow).length = ps.length := by simp
      have hvM : ∀ r, some [pRow p] = some r → Dl.Rows.Mids r := fun r hr => by injection hr with hr; subst hr; exact Rows.mids_c [p.enc]
      have hins := insP_E K (29 + NB) hK hK2 (by omega) (carry 29 (some [pRow p]) H) (carry_ok hH hvM) (ps.map pRow) j (pRow p) (by rw [carry_mid hKm, hKr]) (pRows_sz ps) (carry_x _ _ _) rfl i (by rw [hpl]; exact hb.1) (by rw [hpl]; omega)
        (carry_fix (fun r hr => by injection hr with hr; subst hr; exact fix_c K [p.enc]) (fun k r hk hr => hfix k r hr (fun e => hxm (e ▸ hk))))
      rw [hpl] at hins
      have q4 : ∀ bx k, mid k → (callMemAft bx H1 [x] (some 17) k).map (Dl.Rows.tr (fgt 29)) = H k := fun bx k hk => by rw [q2 bx k hk]; exact hfg 29 k (by omega)
      refine CallC.eff (caps := []) [29] hins (by simp (decide := true) only [go_sem, reduceIte, reduceCtorEq, Nat.reduceEqDiff, Nat.reduceAdd, Nat.reduceMul, Nat.reduceSub, Nat.reduceLeDiff, Nat.reduceBEq]) (DLeL.of_eq (by simp (decide := true) only [go_sem, reduceIte, reduceCtorEq, Nat.reduceEqDiff, Nat.reduceAdd, Nat.reduceMul, Nat.reduceSub, Nat.reduceLeDiff, Nat.reduceBEq, hKx, hxlt, hKlt, hK1, Part.enc, hne])) (carry_call hH (notmid (by omega)) (by simp (decide := true) only [go_sem, reduceIte, reduceCtorEq, Nat.reduceEqDiff, Nat.reduceAdd, Nat.reduceMul, Nat.reduceSub, Nat.reduceLeDiff, Nat.reduceBEq, Part.enc, pRow]) hvM (fun k hk => ?_)) ⟨by simpa using notmid (by omega), fun m hm => by simp at hm; subst hm; simp⟩ ?_
      · have hmk : ∀ m, m < 1000 → (k = m) = False := fun m hm => by simp; have := hk.1; omega
        have q5 := fun bx => q4 bx k hk
        simp (decide := true) only [go_sem, reduceIte, reduceCtorEq, Nat.reduceEqDiff, Nat.reduceAdd, Nat.reduceMul, Nat.reduceSub, Nat.reduceLeDiff, Nat.reduceBEq, hmk, q5]
      rintro r H2 ⟨j', rfl, h2, h3⟩
      have hKnb : (NB ≤ K) = False := by simp; omega
      have hnew : (ps.map pRow).take i ++ (pRow p :: ((ps.map pRow).drop i ++ anyRows j' 3)) = (putAt ps p i).map pRow ++ anyRows j' 3 := by
        simp [putAt, hf, List.map_take, List.map_drop]
      rw [hnew] at h2
      have hpl2 : (putAt ps p i).length = ps.length + 1 := by
        have := hb.1
        simp [putAt, hf]; omega
      have g4 : ∀ k, mid k → k ≠ K → H2 k = H k := fun k hk hkn => by rw [h3 k hk.1 hkn, carry_mid hk]
      have p1 : ∀ bx, callMemAft bx H2 [29] (some 30) x = (bx x).map (Dl.Rows.tr (aft [29] (some 30))) := fun bx => aft_out hxm (by omega) (by simp; omega)
      have p2 : ∀ bx, callMemAft bx H2 [29] (some 30) K = some ((putAt ps p i).map pRow ++ anyRows j' 3) := fun bx => aft_mid hKm (by omega) (by simp; omega) h2 (fun r hr => by injection hr with hr; subst hr; exact pRows_mids _ _)
      have p3 : ∀ bx k, mid k → k ≠ K → callMemAft bx H2 [29] (some 30) k = H k := fun bx k hk hkn => aft_mid hk (by have := hk.1; omega) (by simp; have := hk.1; omega) (g4 k hk hkn) (fun r hr => (hH k r hr).2)
      have p4 : ∀ bx, callMemAft bx H2 [29] (some 30) 3 = (bx 3).map (Dl.Rows.tr (aft [29] (some 30))) := fun bx => aft_low (by omega) (by omega) (by simp)
      simp (decide := true) only [go_sem, reduceIte, reduceCtorEq, Nat.reduceEqDiff, Nat.reduceAdd, Nat.reduceMul, Nat.reduceSub, Nat.reduceLeDiff, Nat.reduceBEq, hne, hxe, hxe2, hxlt, p1, q1, hxr, hK1, hKlt, hKnb]
      (repeat (first | (refine dw_seq ?_) | (refine dw_block ?_) | ((first | (refine dw_reg (N := 34) rfl (by kernel_rfl) ?_) | (apply dw_drw (id := 1) (N := 34) [(0, .light), (1, .light), (2, .light), (3, .light), (4, .light), (5, .light), (6, .light), (7, .light), (8, .light), (9, .step), (10, .light), (11, .light), (12, .light), (13, .light), (14, .light)]; kernel_rfl; rfl; kernel_rfl; (repeat (first | exact Picks.nil | (apply Picks.cons; rfl)))) | (apply dw_drw (id := 3) (N := 34) [(0, .blind), (1, .blind), (2, .blind), (3, .blind), (5, .blind), (4, .look [29]), (6, .light), (7, .fresh), (8, .step), (9, .light), (10, .light), (11, .step)]; kernel_rfl; rfl; kernel_rfl; (repeat (first | exact Picks.nil | (apply Picks.cons; rfl)))) | (refine dw_skip ?_) | (refine dw_exit ?_)); simp (decide := true) only [go_sem, reduceIte, reduceCtorEq, Nat.reduceEqDiff, Nat.reduceAdd, Nat.reduceMul, Nat.reduceSub, Nat.reduceLeDiff, Nat.reduceBEq])))
      refine dw_ret ?_; simp (decide := true) only [go_sem, reduceIte, reduceCtorEq, Nat.reduceEqDiff, Nat.reduceAdd, Nat.reduceMul, Nat.reduceSub, Nat.reduceLeDiff, Nat.reduceBEq, hne, hxe, hxe2, hxlt, p1, q1, hxr, hK1, hKlt, hKnb]
      refine ⟨i, j', hb, ?_, ?_, fun k hk hkn => ?_⟩
      · simp (decide := true) only [go_sem, reduceIte, reduceCtorEq, Nat.reduceEqDiff, Nat.reduceAdd, Nat.reduceMul, Nat.reduceSub, Nat.reduceLeDiff, Nat.reduceBEq, hpl2]
      · have hKx2 : (K = x) = False := by simp [hKx]
        simp (decide := true) only [go_sem, reduceIte, reduceCtorEq, Nat.reduceEqDiff, Nat.reduceAdd, Nat.reduceMul, Nat.reduceSub, Nat.reduceLeDiff, Nat.reduceBEq, hKx2, p2]
      · have hkx : (k = x) = False := by simp; intro e; exact hxm (e ▸ hk)
        have p5 := fun bx => p3 bx k hk hkn
        simp (decide := true) only [go_sem, reduceIte, reduceCtorEq, Nat.reduceEqDiff, Nat.reduceAdd, Nat.reduceMul, Nat.reduceSub, Nat.reduceLeDiff, Nat.reduceBEq, hkx, p5]
    · simp
end Go.Proofs.Ytffcabenoakmgaa

/- Contract of the sorted list of parts: take. -/
namespace Go.Proofs.Ytffcabenoakmgaa
open Go.Dl
attribute [local irreducible] DW DCalls ECalls wk

/-- The part at the place i taken out, if it is p. -/
def takeAt (ps : List Part) (p : Part) (i : Nat) : List Part := if ps[i]?.map (fun q => cmpP q p) = some 0 then ps.take i ++ ps.drop (i + 1) else ps

--F45
set_option maxRecDepth 10000 in
set_option maxHeartbeats 8000000 in
theorem takeP_E (x K : Nat) (hx : NB ≤ x) (hK : 1000 ≤ K) (hK2 : K < 100000) (H : Mem) (hH : MemOk H) (ps : List Part) (j : Nat) (p : Part) (hl : ps.length ≤ 10000)
    (hxr : H x = some [[.ba K 3 0 ps.length (ps.length + j), .c (.fn 35 [])]]) (hKr : H K = some (ps.map pRow ++ anyRows j 3)) (hfix : ∀ k r, H k = some r → k ≠ x → FixX K r) :
    ECalls Try.prog 45 [.one (.bx x 2 0 0), .agg (pRow p)] H
      (fun r H' => ∃ i j', BsOk (bsF ps p) ps.length i ∧ r = .tup [] ∧ H' x = some [[.ba K 3 0 (takeAt ps p i).length ((takeAt ps p i).length + j'), .c (.fn 35 [])]] ∧ H' K = some ((takeAt ps p i).map pRow ++ anyRows j' 3) ∧ ∀ k, mid k → k ≠ K → H' k = H k) := by
  have hNB := NB_big
  have hmax : (1000000 : Nat) < maxLen := by simp [maxLen]
  have hKm : mid K := ⟨hK, by omega⟩
  have hxm : ¬ mid x := notmidNB hx
  have hxK : ¬ x = K := by omega
  have hKx : ¬ K = x := by omega
  have hxlt : (x < NB) = False := by simp; omega
  have hKlt : (K < NB) = True := by simp; omega
  have hK1 : (1000 ≤ K) = True := by simp [hK]
  have hne : ∀ k, k < 1000 → (K = k) = False := fun k hk => by simp; omega
  have hxe : ∀ k, k < 1000 → (x = k) = False := fun k hk => by simp; omega
  have hxe2 : ∀ k, k < 1000 → (k = x) = False := fun k hk => by simp; omega
  have hfg : ∀ (m k : Nat), m < 1000 → (H k).map (Dl.Rows.tr (fgt m)) = H k := fun m k hm => hH.fgt hm k
  have hxM : ∀ r, H x = some r → Dl.Rows.Mids r := fun r hr => (hH x r hr).2
  refine ecalls (N := 31) (rs := []) (by kernel_rfl) Try.func45 rfl rfl rfl (by simp) ?_
  (repeat (first | (refine dw_seq ?_) | (refine dw_block ?_) | ((first | (refine dw_reg (N := 31) rfl (by kernel_rfl) ?_) | (apply dw_drw (id := 1) (N := 31) [(0, .light), (1, .light), (2, .light), (3, .light), (4, .light), (5, .light), (6, .light), (7, .light), (8, .light), (9, .step), (10, .light), (11, .light), (12, .light), (13, .light), (14, .light)]; kernel_rfl; rfl; kernel_rfl; (repeat (first | exact Picks.nil | (apply Picks.cons; rfl)))) | (refine dw_skip ?_) | (refine dw_exit ?_)); simp (decide := true) only [go_sem, reduceIte, reduceCtorEq, Nat.reduceEqDiff, Nat.reduceAdd, Nat.reduceMul, Nat.reduceSub, Nat.reduceLeDiff, Nat.reduceBEq, Part.enc, hxe, hne, hfg, hxr, hxlt])))
  have hbs := bsP_E K (ps.length + j) hK (carry x (H x) H) (carry_ok hH hxM) (ps.map pRow ++ anyRows j 3) (by rw [carry_mid hKm, hKr]) ps p (fun q a hq => by rw [List.getElem?_append_left (by simp; exact (List.getElem?_eq_some_iff.1 hq).1), List.getElem?_map, hq]; rfl) (by omega)
  refine CallC.eff (caps := []) [x] hbs (by simp (decide := true) only [go_sem, reduceIte, reduceCtorEq, Nat.reduceEqDiff, Nat.reduceAdd, Nat.reduceMul, Nat.reduceSub, Nat.reduceLeDiff, Nat.reduceBEq]) (DLeL.of_eq (by simp (decide := true) only [go_sem, reduceIte, reduceCtorEq, Nat.reduceEqDiff, Nat.reduceAdd, Nat.reduceMul, Nat.reduceSub, Nat.reduceLeDiff, Nat.reduceBEq, hKx, hxlt, hKlt, hK1, Part.enc])) (carry_call hH hxm (by simp (decide := true) only [go_sem, reduceIte, reduceCtorEq, Nat.reduceEqDiff, Nat.reduceAdd, Nat.reduceMul, Nat.reduceSub, Nat.reduceLeDiff, Nat.reduceBEq, hxe, hfg]) hxM (fun k hk => ?_)) ⟨by simpa using hxm, fun m hm => by simp at hm; subst hm; simp; omega⟩ ?_
  · have hmk : ∀ m, m < 1000 → (k = m) = False := fun m hm => by simp; have := hk.1; omega
    simp (decide := true) only [go_sem, reduceIte, reduceCtorEq, Nat.reduceEqDiff, Nat.reduceAdd, Nat.reduceMul, Nat.reduceSub, Nat.reduceLeDiff, Nat.reduceBEq, hmk, hfg]
  rintro r H1 ⟨⟨i, hb, rfl⟩, h1⟩
  have g1 : H1 (x + NB) = H x := by rw [h1 _ (by omega), carry_x]
  have g2 : ∀ k, mid k → H1 k = H k := fun k hk => by rw [h1 k hk.1, carry_mid hk]
  have q1 : ∀ bx, callMemAft bx H1 [x] (some 16) x = H x := fun bx => aft_x (by simp; omega) hxM g1
  have q2 : ∀ bx k, mid k → callMemAft bx H1 [x] (some 16) k = H k := fun bx k hk => aft_mid hk (fun e => hxm (e ▸ hk)) (by simp; have := hk.1; omega) (g2 k hk) (fun r hr => (hH k r hr).2)
  have q3 : ∀ bx, callMemAft bx H1 [x] (some 16) 3 = (bx 3).map (Dl.Rows.tr (aft [x] (some 16))) := fun bx => aft_low (by omega) (by omega) (by simp)
  simp (decide := true) only [go_sem, reduceIte, reduceCtorEq, Nat.reduceEqDiff, Nat.reduceAdd, Nat.reduceMul, Nat.reduceSub, Nat.reduceLeDiff, Nat.reduceBEq, hxlt]
  (repeat (first | (refine dw_seq ?_) | (refine dw_block ?_) | ((first | (refine dw_reg (N := 31) rfl (by kernel_rfl) ?_) | (apply dw_drw (id := 1) (N := 31) [(0, .light), (1, .light), (2, .light), (3, .light), (4, .light), (5, .light), (6, .light), (7, .light), (8, .light), (9, .step), (10, .light), (11, .light), (12, .light), (13, .light), (14, .light)]; kernel_rfl; rfl; kernel_rfl; (repeat (first | exact Picks.nil | (apply Picks.cons; rfl)))) | (refine dw_skip ?_) | (refine dw_exit ?_)); simp (decide := true) only [go_sem, reduceIte, reduceCtorEq, Nat.reduceEqDiff, Nat.reduceAdd, Nat.reduceMul, Nat.reduceSub, Nat.reduceLeDiff, Nat.reduceBEq])))
  by_cases hf : ps[i]?.map (fun q => cmpP q p) = some 0
  · have hf' : decide (ps[i]?.map (fun q => cmpP q p) = some 0) = true := by simpa using hf
    have hil : i < ps.length := by
      rcases Nat.lt_or_ge i ps.length with h | h
      · exact h
      · rw [List.getElem?_eq_none h] at hf; cases hf
    have hpl : (ps.map pRow).length = ps.length := by simp
    have hw := wrap_succ i (by omega)
    apply dw_cond; (simp (decide := true) only [go_sem, reduceIte, reduceCtorEq, Nat.reduceEqDiff, Nat.reduceAdd, Nat.reduceMul, Nat.reduceSub, Nat.reduceLeDiff, Nat.reduceBEq, hf']; rfl)
    · intro _
      have hdel := delP_E K hK (carry x (H x) H) (ps.map pRow) j (by rw [carry_mid hKm, hKr]) (pRows_sz ps) i (by rw [hpl]; exact hil) (by rw [hpl]; omega)
      rw [hpl] at hdel
      (repeat (first | (refine dw_seq ?_) | (refine dw_block ?_) | ((first | (refine dw_reg (N := 31) rfl (by kernel_rfl) ?_) | (apply dw_drw (id := 1) (N := 31) [(0, .light), (1, .light), (2, .light), (3, .light), (4, .light), (5, .light), (6, .light), (7, .light), (8, .light), (9, .step), (10, .light), (11, .light), (12, .light), (13, .light), (14, .light)]; kernel_rfl; rfl; kernel_rfl; (repeat (first | exact Picks.nil | (apply Picks.cons; rfl)))) | (refine dw_skip ?_) | (refine dw_exit ?_)); simp (decide := true) only [go_sem, reduceIte, reduceCtorEq, Nat.reduceEqDiff, Nat.reduceAdd, Nat.reduceMul, Nat.reduceSub, Nat.reduceLeDiff, Nat.reduceBEq, hxe, hxe2, hxlt, q1, q3, hxr, Part.enc, hne, hw])))
      refine CallC.eff (caps := []) [x] hdel (by simp (decide := true) only [go_sem, reduceIte, reduceCtorEq, Nat.reduceEqDiff, Nat.reduceAdd, Nat.reduceMul, Nat.reduceSub, Nat.reduceLeDiff, Nat.reduceBEq]) (DLeL.of_eq (by simp (decide := true) only [go_sem, reduceIte, reduceCtorEq, Nat.reduceEqDiff, Nat.reduceAdd, Nat.reduceMul, Nat.reduceSub, Nat.reduceLeDiff, Nat.reduceBEq, hKx, hxlt, hKlt, hK1, Part.enc, hne])) (carry_call hH hxm (by simp (decide := true) only [go_sem, reduceIte, reduceCtorEq, Nat.reduceEqDiff, Nat.reduceAdd, Nat.reduceMul, Nat.reduceSub, Nat.reduceLeDiff, Nat.reduceBEq, q1]) hxM (fun k hk => ?_)) ⟨by simpa using hxm, fun m hm => by simp at hm; subst hm; simp; omega⟩ ?_
      · have q5 := fun bx => q2 bx k hk
        simp (decide := true) only [go_sem, reduceIte, reduceCtorEq, Nat.reduceEqDiff, Nat.reduceAdd, Nat.reduceMul, Nat.reduceSub, Nat.reduceLeDiff, Nat.reduceBEq, q5]
      rintro r H2 ⟨rfl, h2, h3⟩
      have hKnb : (NB ≤ K) = False := by simp; omega
      have hnew : (ps.map pRow).take i ++ ((ps.map pRow).drop (i + 1) ++ anyRows (j + 1) 3) = (takeAt ps p i).map pRow ++ anyRows (j + 1) 3 := by
        simp [takeAt, hf, List.map_take, List.map_drop]
      rw [hnew] at h2
      have hpl2 : (takeAt ps p i).length = ps.length - 1 := by
        simp [takeAt, hf]; omega
      have hpl3 : ps.length - 1 + (j + 1) = ps.length + j := by omega
      have g4 : ∀ k, mid k → k ≠ K → H2 k = H k := fun k hk hkn => by rw [h3 k hk.1 hkn, carry_mid hk]
      have g5 : H2 (x + NB) = H x := by rw [h3 _ (by omega) (by omega), carry_x]
      have p1 : ∀ bx, callMemAft bx H2 [x] (some 28) x = H x := fun bx => aft_x (by simp; omega) hxM g5
      have p2 : ∀ bx, callMemAft bx H2 [x] (some 28) K = some ((takeAt ps p i).map pRow ++ anyRows (j + 1) 3) := fun bx => aft_mid hKm (by omega) (by simp; omega) h2 (fun r hr => by injection hr with hr; subst hr; exact pRows_mids _ _)
      have p3 : ∀ bx k, mid k → k ≠ K → callMemAft bx H2 [x] (some 28) k = H k := fun bx k hk hkn => aft_mid hk (fun e => hxm (e ▸ hk)) (by simp; have := hk.1; omega) (g4 k hk hkn) (fun r hr => (hH k r hr).2)
      simp (decide := true) only [go_sem, reduceIte, reduceCtorEq, Nat.reduceEqDiff, Nat.reduceAdd, Nat.reduceMul, Nat.reduceSub, Nat.reduceLeDiff, Nat.reduceBEq, hne, hxe, hxe2, hxlt, p1, hxr, hK1, hKlt, hKnb]
      (repeat (first | (refine dw_seq ?_) | (refine dw_block ?_) | ((first | (refine dw_reg (N := 31) rfl (by kernel_rfl) ?_) | (apply dw_drw (id := 1) (N := 31) [(0, .light), (1, .light), (2, .light), (3, .light), (4, .light), (5, .light), (6, .light), (7, .light), (8, .light), (9, .step), (10, .light), (11, .light), (12, .light), (13, .light), (14, .light)]; kernel_rfl; rfl; kernel_rfl; (repeat (first | exact Picks.nil | (apply Picks.cons; rfl)))) | (refine dw_skip ?_) | (refine dw_exit ?_)); simp (decide := true) only [go_sem, reduceIte, reduceCtorEq, Nat.reduceEqDiff, Nat.reduceAdd, Nat.reduceMul, Nat.reduceSub, Nat.reduceLeDiff, Nat.reduceBEq, hne, hxe, hxe2, hxlt, p1, hxr, hK1, hKlt, hKnb])))
      refine ⟨i, j + 1, hb, by rw [hpl2, hpl3], ?_, fun k hk hkn => ?_⟩
      · have hKx2 : (K = x) = False := by simp [hKx]
        simp (decide := true) only [go_sem, reduceIte, reduceCtorEq, Nat.reduceEqDiff, Nat.reduceAdd, Nat.reduceMul, Nat.reduceSub, Nat.reduceLeDiff, Nat.reduceBEq, hKx2, p2]
      · have hkx : (k = x) = False := by simp; intro e; exact hxm (e ▸ hk)
        have p5 := fun bx => p3 bx k hk hkn
        simp (decide := true) only [go_sem, reduceIte, reduceCtorEq, Nat.reduceEqDiff, Nat.reduceAdd, Nat.reduceMul, Nat.reduceSub, Nat.reduceLeDiff, Nat.reduceBEq, hkx, p5]
    · simp
  · have hf' : decide (ps[i]?.map (fun q => cmpP q p) = some 0) = false := by simpa using hf
    apply dw_cond; (simp (decide := true) only [go_sem, reduceIte, reduceCtorEq, Nat.reduceEqDiff, Nat.reduceAdd, Nat.reduceMul, Nat.reduceSub, Nat.reduceLeDiff, Nat.reduceBEq, hf']; rfl)
    · simp
    intro _
    have hpa : takeAt ps p i = ps := by simp [takeAt, hf]
    (repeat (first | (refine dw_seq ?_) | (refine dw_block ?_) | ((first | (refine dw_reg (N := 31) rfl (by kernel_rfl) ?_) | (apply dw_drw (id := 1) (N := 31) [(0, .light), (1, .light), (2, .light), (3, .light), (4, .light), (5, .light), (6, .light), (7, .light), (8, .light), (9, .step), (10, .light), (11, .light), (12, .light), (13, .light), (14, .light)]; kernel_rfl; rfl; kernel_rfl; (repeat (first | exact Picks.nil | (apply Picks.cons; rfl)))) | (refine dw_skip ?_) | (refine dw_exit ?_)); simp (decide := true) only [go_sem, reduceIte, reduceCtorEq, Nat.reduceEqDiff, Nat.reduceAdd, Nat.reduceMul, Nat.reduceSub, Nat.reduceLeDiff, Nat.reduceBEq, q1, hxr])))
    refine ⟨i, j, hb, by rw [hpa], ?_, fun k hk hkn => ?_⟩
    · rw [hpa, ← hKr]
      simp (decide := true) only [go_sem, reduceIte, reduceCtorEq, Nat.reduceEqDiff, Nat.reduceAdd, Nat.reduceMul, Nat.reduceSub, Nat.reduceLeDiff, Nat.reduceBEq, q2 _ K hKm]
    · have q4 := fun bx => q2 bx k hk
      simp (decide := true) only [go_sem, reduceIte, reduceCtorEq, Nat.reduceEqDiff, Nat.reduceAdd, Nat.reduceMul, Nat.reduceSub, Nat.reduceLeDiff, Nat.reduceBEq, q4]
end Go.Proofs.Ytffcabenoakmgaa

/- Contract of the sorted list of rows: put. -/
namespace Go.Proofs.Ytffcabenoakmgaa
open Go.Dl
attribute [local irreducible] DW DCalls ECalls wk

abbrev gRow (g : ByteArray) : List T := [.c (ls g), .ex 3 []]
theorem gRow_mids (g : ByteArray) : Dl.Rows.Mids [gRow g] := fun r hr => by
  rw [List.mem_singleton.1 hr]; exact ⟨trivial, trivial, trivial⟩
theorem gRow_fix (n : Nat) (g : ByteArray) : FixX n [gRow g] := fun r _ => by simp [Rows.tr, T.trAll, T.tr]

def bsG (gs : List ByteArray) (g : ByteArray) : Nat → Int := fun j => match gs[j]? with | some q => cmpS q g | none => 0

/-- A row put into a list of rows, at the place i. -/
def putRw (rows : Dl.Rows) (gs : List ByteArray) (g : ByteArray) (i : Nat) : Dl.Rows := if gs[i]?.map (fun q => cmpS q g) = some 0 then rows else rows.take i ++ gRow g :: rows.drop i

--F43
set_option maxRecDepth 10000 in
set_option maxHeartbeats 8000000 in
theorem putR_E (x K : Nat) (hx : NB ≤ x) (hK : 1000 ≤ K) (hK2 : K < 100000) (H : Mem) (hH : MemOk H) (rows : Dl.Rows) (gs : List ByteArray) (j : Nat) (g : ByteArray) (hl : rows.length ≤ 10000)
    (hgl : gs.length = rows.length) (hgs : ∀ (q : Nat) a, gs[q]? = some a → ∃ t, rows[q]? = some [.c (ls a), t]) (hz : RowsSz 2 rows)
    (hxr : H x = some [[.ba K 2 0 rows.length (rows.length + j), .c (.fn 41 [])]]) (hKr : H K = some (rows ++ anyRows j 2)) (hfix : ∀ k r, H k = some r → k ≠ x → FixX K r) :
    ECalls Try.prog 43 [.one (.bx x 2 0 0), .agg [.c (ls g), .ex 3 []]] H
      (fun r H' => ∃ i j', BsOk (bsG gs g) rows.length i ∧ r = dv (li i) ∧ H' x = some [[.ba K 2 0 (putRw rows gs g i).length ((putRw rows gs g i).length + j'), .c (.fn 41 [])]] ∧ H' K = some (putRw rows gs g i ++ anyRows j' 2) ∧ ∀ k, mid k → k ≠ K → H' k = H k) := by
  have hNB := NB_big
  have hmax : (1000000 : Nat) < maxLen := by simp [maxLen]
  have hKm : mid K := ⟨hK, by omega⟩
  have hxm : ¬ mid x := notmidNB hx
  have hxK : ¬ x = K := by omega
  have hKx : ¬ K = x := by omega
  have hxlt : (x < NB) = False := by simp; omega
  have hKlt : (K < NB) = True := by simp; omega
  have hK1 : (1000 ≤ K) = True := by simp [hK]
  have hne : ∀ k, k < 1000 → (K = k) = False := fun k hk => by simp; omega
  have hxe : ∀ k, k < 1000 → (x = k) = False := fun k hk => by simp; omega
  have hxe2 : ∀ k, k < 1000 → (k = x) = False := fun k hk => by simp; omega
  have hfg : ∀ (m k : Nat), m < 1000 → (H k).map (Dl.Rows.tr (fgt m)) = H k := fun m k hm => hH.fgt hm k
  have hrM : Dl.Rows.Mids rows := fun r hr => (hH K _ hKr).2 r (List.mem_append_left _ hr)
  have hnM : ∀ i j', Dl.Rows.Mids (putRw rows gs g i ++ anyRows j' 2) := fun i j' => Rows.mids_append (fun r hr => by
    unfold putRw at hr
    split at hr
    · exact hrM r hr
    · simp only [List.mem_append, List.mem_cons] at hr
      rcases hr with h | rfl | h
      · exact hrM r (List.mem_of_mem_take h)
      · exact gRow_mids g _ (List.mem_singleton.2 rfl)
      · exact hrM r (List.mem_of_mem_drop h)) (anyRows_mids _ _)
  have hxM : ∀ r, H x = some r → Dl.Rows.Mids r := fun r hr => (hH x r hr).2
  refine ecalls (N := 34) (rs := [.tmp 4]) (by kernel_rfl) Try.func43 rfl rfl rfl (by simp) ?_
  (repeat (first | (refine dw_seq ?_) | (refine dw_block ?_) | ((first | (refine dw_reg (N := 34) rfl (by kernel_rfl) ?_) | (apply dw_drw (id := 1) (N := 34) [(0, .light), (1, .light), (2, .light), (3, .light), (4, .light), (5, .light), (6, .light), (7, .light), (8, .light), (9, .step), (10, .light), (11, .light), (12, .light), (13, .light), (14, .light)]; kernel_rfl; rfl; kernel_rfl; (repeat (first | exact Picks.nil | (apply Picks.cons; rfl)))) | (apply dw_drw (id := 3) (N := 34) [(0, .blind), (1, .blind), (2, .blind), (3, .blind), (5, .blind), (4, .look [29]), (6, .light), (7, .fresh), (8, .step), (9, .light), (10, .light), (11, .step)]; kernel_rfl; rfl; kernel_rfl; (repeat (first | exact Picks.nil | (apply Picks.cons; rfl)))) | (refine dw_skip ?_) | (refine dw_exit ?_)); simp (decide := true) only [go_sem, reduceIte, reduceCtorEq, Nat.reduceEqDiff, Nat.reduceAdd, Nat.reduceMul, Nat.reduceSub, Nat.reduceLeDiff, Nat.reduceBEq, hxe, hne, hfg, hxr, hxlt])))
  have hbs := bsR_E K (rows.length + j) hK (carry x (H x) H) (carry_ok hH hxM) (rows ++ anyRows j 2) (by rw [carry_mid hKm, hKr]) gs g (fun q a hq => by obtain ⟨t, ht⟩ := hgs q a hq; exact ⟨t, by rw [List.getElem?_append_left (List.getElem?_eq_some_iff.1 ht).1, ht]⟩) (by omega)
  rw [hgl] at hbs
  refine CallC.eff (caps := []) [x] hbs (by simp (decide := true) only [go_sem, reduceIte, reduceCtorEq, Nat.reduceEqDiff, Nat.reduceAdd, Nat.reduceMul, Nat.reduceSub, Nat.reduceLeDiff, Nat.reduceBEq]) (DLeL.of_eq (by simp (decide := true) only [go_sem, reduceIte, reduceCtorEq, Nat.reduceEqDiff, Nat.reduceAdd, Nat.reduceMul, Nat.reduceSub, Nat.reduceLeDiff, Nat.reduceBEq, hKx, hxlt, hKlt, hK1])) (carry_call hH hxm (by simp (decide := true) only [go_sem, reduceIte, reduceCtorEq, Nat.reduceEqDiff, Nat.reduceAdd, Nat.reduceMul, Nat.reduceSub, Nat.reduceLeDiff, Nat.reduceBEq, hxe, hfg]) hxM (fun k hk => ?_)) ⟨by simpa using hxm, fun m hm => by simp at hm; subst hm; simp; omega⟩ ?_
  · have hmk : ∀ m, m < 1000 → (k = m) = False := fun m hm => by simp; have := hk.1; omega
    simp (decide := true) only [go_sem, reduceIte, reduceCtorEq, Nat.reduceEqDiff, Nat.reduceAdd, Nat.reduceMul, Nat.reduceSub, Nat.reduceLeDiff, Nat.reduceBEq, hmk, hfg]
  rintro r H1 ⟨⟨i, hb, rfl⟩, h1⟩
  have g1 : H1 (x + NB) = H x := by rw [h1 _ (by omega), carry_x]
  have g2 : ∀ k, mid k → H1 k = H k := fun k hk => by rw [h1 k hk.1, carry_mid hk]
  have q1 : ∀ bx, callMemAft bx H1 [x] (some 17) x = H x := fun bx => aft_x (by simp; omega) hxM g1
  have q2 : ∀ bx k, mid k → callMemAft bx H1 [x] (some 17) k = H k := fun bx k hk => aft_mid hk (fun e => hxm (e ▸ hk)) (by simp; have := hk.1; omega) (g2 k hk) (fun r hr => (hH k r hr).2)
  have q3 : ∀ bx, callMemAft bx H1 [x] (some 17) 3 = (bx 3).map (Dl.Rows.tr (aft [x] (some 17))) := fun bx => aft_low (by omega) (by omega) (by simp)
  simp (decide := true) only [go_sem, reduceIte, reduceCtorEq, Nat.reduceEqDiff, Nat.reduceAdd, Nat.reduceMul, Nat.reduceSub, Nat.reduceLeDiff, Nat.reduceBEq, hxlt]
  (repeat (first | (refine dw_seq ?_) | (refine dw_block ?_) | ((first | (refine dw_reg (N := 34) rfl (by kernel_rfl) ?_) | (apply dw_drw (id := 1) (N := 34) [(0, .light), (1, .light), (2, .light), (3, .light), (4, .light), (5, .light), (6, .light), (7, .light), (8, .light), (9, .step), (10, .light), (11, .light), (12, .light), (13, .light), (14, .light)]; kernel_rfl; rfl; kernel_rfl; (repeat (first | exact Picks.nil | (apply Picks.cons; rfl)))) | (apply dw_drw (id := 3) (N := 34) [(0, .blind), (1, .blind), (2, .blind), (3, .blind), (5, .blind), (4, .look [29]), (6, .light), (7, .fresh), (8, .step), (9, .light), (10, .light), (11, .step)]; kernel_rfl; rfl; kernel_rfl; (repeat (first | exact Picks.nil | (apply Picks.cons; rfl)))) | (refine dw_skip ?_) | (refine dw_exit ?_)); simp (decide := true) only [go_sem, reduceIte, reduceCtorEq, Nat.reduceEqDiff, Nat.reduceAdd, Nat.reduceMul, Nat.reduceSub, Nat.reduceLeDiff, Nat.reduceBEq])))
  by_cases hf : gs[i]?.map (fun q => cmpS q g) = some 0
  · have hf' : decide (gs[i]?.map (fun q => cmpS q g) = some 0) = true := by simpa using hf
    apply dw_cond; (simp (decide := true) only [go_sem, reduceIte, reduceCtorEq, Nat.reduceEqDiff, Nat.reduceAdd, Nat.reduceMul, Nat.reduceSub, Nat.reduceLeDiff, Nat.reduceBEq, hf']; rfl)
    · simp
    intro _
    (repeat (first | (refine dw_seq ?_) | (refine dw_block ?_) | ((first | (refine dw_reg (N := 34) rfl (by kernel_rfl) ?_) | (apply dw_drw (id := 1) (N := 34) [(0, .light), (1, .light), (2, .light), (3, .light), (4, .light), (5, .light), (6, .light), (7, .light), (8, .light), (9, .step), (10, .light), (11, .light), (12, .light), (13, .light), (14, .light)]; kernel_rfl; rfl; kernel_rfl; (repeat (first | exact Picks.nil | (apply Picks.cons; rfl)))) | (apply dw_drw (id := 3) (N := 34) [(0, .blind), (1, .blind), (2, .blind), (3, .blind), (5, .blind), (4, .look [29]), (6, .light), (7, .fresh), (8, .step), (9, .light), (10, .light), (11, .step)]; kernel_rfl; rfl; kernel_rfl; (repeat (first | exact Picks.nil | (apply Picks.cons; rfl)))) | (refine dw_skip ?_) | (refine dw_exit ?_)); simp (decide := true) only [go_sem, reduceIte, reduceCtorEq, Nat.reduceEqDiff, Nat.reduceAdd, Nat.reduceMul, Nat.reduceSub, Nat.reduceLeDiff, Nat.reduceBEq])))
    refine dw_ret ?_; simp (decide := true) only [go_sem, reduceIte, reduceCtorEq, Nat.reduceEqDiff, Nat.reduceAdd, Nat.reduceMul, Nat.reduceSub, Nat.reduceLeDiff, Nat.reduceBEq, q1]
    have hpa : putRw rows gs g i = rows := by simp [putRw, hf]
    refine ⟨i, j, hb, rfl, by rw [hpa, hxr], ?_, fun k hk hkn => ?_⟩
    · rw [hpa, ← hKr]
      simp (decide := true) only [go_sem, reduceIte, reduceCtorEq, Nat.reduceEqDiff, Nat.reduceAdd, Nat.reduceMul, Nat.reduceSub, Nat.reduceLeDiff, Nat.reduceBEq, q2 _ K hKm]
    · have q4 := fun bx => q2 bx k hk
      simp (decide := true) only [go_sem, reduceIte, reduceCtorEq, Nat.reduceEqDiff, Nat.reduceAdd, Nat.reduceMul, Nat.reduceSub, Nat.reduceLeDiff, Nat.reduceBEq, q4]
  · have hf' : decide (gs[i]?.map (fun q => cmpS q g) = some 0) = false := by simpa using hf
    apply dw_cond; (simp (decide := true) only [go_sem, reduceIte, reduceCtorEq, Nat.reduceEqDiff, Nat.reduceAdd, Nat.reduceMul, Nat.reduceSub, Nat.reduceLeDiff, Nat.reduceBEq, hf']; rfl)
    · intro _
      (repeat (first | (refine dw_seq ?_) | (refine dw_block ?_) | ((first | (refine dw_reg (N := 34) rfl (by kernel_rfl) ?_) | (apply dw_drw (id := 1) (N := 34) [(0, .light), (1, .light), (2, .light), (3, .light), (4, .light), (5, .light), (6, .light), (7, .light), (8, .light), (9, .step), (10, .light), (11, .light), (12, .light), (13, .light), (14, .light)]; kernel_rfl; rfl; kernel_rfl; (repeat (first | exact Picks.nil | (apply Picks.cons; rfl)))) | (apply dw_drw (id := 3) (N := 34) [(0, .blind), (1, .blind), (2, .blind), (3, .blind), (5, .blind), (4, .look [29]), (6, .light), (7, .fresh), (8, .step), (9, .light), (10, .light), (11, .step)]; kernel_rfl; rfl; kernel_rfl; (repeat (first | exact Picks.nil | (apply Picks.cons; rfl)))) | (refine dw_skip ?_) | (refine dw_exit ?_)); simp (decide := true) only [go_sem, reduceIte, reduceCtorEq, Nat.reduceEqDiff, Nat.reduceAdd, Nat.reduceMul, Nat.reduceSub, Nat.reduceLeDiff, Nat.reduceBEq, hxe, hxe2, hxlt, q1, q3, hxr, hne])))
      have hpl : rows.length = rows.length := rfl
      have hvM : ∀ r, some [gRow g] = some r → Dl.Rows.Mids r := fun r hr => by injection hr with hr; subst hr; exact gRow_mids g
      have hins := insR_E K (29 + NB) hK hK2 (by omega) (carry 29 (some [gRow g]) H) (carry_ok hH hvM) rows j (gRow g) (by rw [carry_mid hKm, hKr]) hz (carry_x _ _ _) rfl i (by rw [hpl]; exact hb.1) (by rw [hpl]; omega)
        (carry_fix (fun r hr => by injection hr with hr; subst hr; exact gRow_fix K g) (fun k r hk hr => hfix k r hr (fun e => hxm (e ▸ hk))))
      rw [hpl] at hins
      have q4 : ∀ bx k, mid k → (callMemAft bx H1 [x] (some 17) k).map (Dl.Rows.tr (fgt 29)) = H k := fun bx k hk => by rw [q2 bx k hk]; exact hfg 29 k (by omega)
      refine CallC.eff (caps := []) [29] hins (by simp (decide := true) only [go_sem, reduceIte, reduceCtorEq, Nat.reduceEqDiff, Nat.reduceAdd, Nat.reduceMul, Nat.reduceSub, Nat.reduceLeDiff, Nat.reduceBEq]) (DLeL.of_eq (by simp (decide := true) only [go_sem, reduceIte, reduceCtorEq, Nat.reduceEqDiff, Nat.reduceAdd, Nat.reduceMul, Nat.reduceSub, Nat.reduceLeDiff, Nat.reduceBEq, hKx, hxlt, hKlt, hK1, hne])) (carry_call hH (notmid (by omega)) (by simp (decide := true) only [go_sem, reduceIte, reduceCtorEq, Nat.reduceEqDiff, Nat.reduceAdd, Nat.reduceMul, Nat.reduceSub, Nat.reduceLeDiff, Nat.reduceBEq, pRow]) hvM (fun k hk => ?_)) ⟨by simpa using notmid (by omega), fun m hm => by simp at hm; subst hm; simp⟩ ?_
      · have hmk : ∀ m, m < 1000 → (k = m) = False := fun m hm => by simp; have := hk.1; omega
        have q5 := fun bx => q4 bx k hk
        simp (decide := true) only [go_sem, reduceIte, reduceCtorEq, Nat.reduceEqDiff, Nat.reduceAdd, Nat.reduceMul, Nat.reduceSub, Nat.reduceLeDiff, Nat.reduceBEq, hmk, q5]
      rintro r H2 ⟨j', rfl, h2, h3⟩
      have hKnb : (NB ≤ K) = False := by simp; omega
      have hnew : rows.take i ++ (gRow g :: (rows.drop i ++ anyRows j' 2)) = putRw rows gs g i ++ anyRows j' 2 := by
        simp [putRw, hf, List.map_take, List.map_drop]
      rw [hnew] at h2
      have hpl2 : (putRw rows gs g i).length = rows.length + 1 := by
        have := hb.1
        simp [putRw, hf]; omega
      have g4 : ∀ k, mid k → k ≠ K → H2 k = H k := fun k hk hkn => by rw [h3 k hk.1 hkn, carry_mid hk]
      have p1 : ∀ bx, callMemAft bx H2 [29] (some 30) x = (bx x).map (Dl.Rows.tr (aft [29] (some 30))) := fun bx => aft_out hxm (by omega) (by simp; omega)
      have p2 : ∀ bx, callMemAft bx H2 [29] (some 30) K = some (putRw rows gs g i ++ anyRows j' 2) := fun bx => aft_mid hKm (by omega) (by simp; omega) h2 (fun r hr => by injection hr with hr; subst hr; exact hnM i j')
      have p3 : ∀ bx k, mid k → k ≠ K → callMemAft bx H2 [29] (some 30) k = H k := fun bx k hk hkn => aft_mid hk (by have := hk.1; omega) (by simp; have := hk.1; omega) (g4 k hk hkn) (fun r hr => (hH k r hr).2)
      have p4 : ∀ bx, callMemAft bx H2 [29] (some 30) 3 = (bx 3).map (Dl.Rows.tr (aft [29] (some 30))) := fun bx => aft_low (by omega) (by omega) (by simp)
      simp (decide := true) only [go_sem, reduceIte, reduceCtorEq, Nat.reduceEqDiff, Nat.reduceAdd, Nat.reduceMul, Nat.reduceSub, Nat.reduceLeDiff, Nat.reduceBEq, hne, hxe, hxe2, hxlt, p1, q1, hxr, hK1, hKlt, hKnb]
      (repeat (first | (refine dw_seq ?_) | (refine dw_block ?_) | ((first | (refine dw_reg (N := 34) rfl (by kernel_rfl) ?_) | (apply dw_drw (id := 1) (N := 34) [(0, .light), (1, .light), (2, .light), (3, .light), (4, .light), (5, .light), (6, .light), (7, .light), (8, .light), (9, .step), (10, .light), (11, .light), (12, .light), (13, .light), (14, .light)]; kernel_rfl; rfl; kernel_rfl; (repeat (first | exact Picks.nil | (apply Picks.cons; rfl)))) | (apply dw_drw (id := 3) (N := 34) [(0, .blind), (1, .blind), (2, .blind), (3, .blind), (5, .blind), (4, .look [29]), (6, .light), (7, .fresh), (8, .step), (9, .light), (10, .light), (11, .step)]; kernel_rfl; rfl; kernel_rfl; (repeat (first | exact Picks.nil | (apply Picks.cons; rfl)))) | (refine dw_skip ?_) | (refine dw_exit ?_)); simp (decide := true) only [go_sem, reduceIte, reduceCtorEq, Nat.reduceEqDiff, Nat.reduceAdd, Nat.reduceMul, Nat.reduceSub, Nat.reduceLeDiff, Nat.reduceBEq])))
      refine dw_ret ?_; simp (decide := true) only [go_sem, reduceIte, reduceCtorEq, Nat.reduceEqDiff, Nat.reduceAdd, Nat.reduceMul, Nat.reduceSub, Nat.reduceLeDiff, Nat.reduceBEq, hne, hxe, hxe2, hxlt, p1, q1, hxr, hK1, hKlt, hKnb]
      refine ⟨i, j', hb, rfl, ?_, ?_, fun k hk hkn => ?_⟩
      · simp (decide := true) only [go_sem, reduceIte, reduceCtorEq, Nat.reduceEqDiff, Nat.reduceAdd, Nat.reduceMul, Nat.reduceSub, Nat.reduceLeDiff, Nat.reduceBEq, hpl2]
      · have hKx2 : (K = x) = False := by simp [hKx]
        simp (decide := true) only [go_sem, reduceIte, reduceCtorEq, Nat.reduceEqDiff, Nat.reduceAdd, Nat.reduceMul, Nat.reduceSub, Nat.reduceLeDiff, Nat.reduceBEq, hKx2, p2]
      · have hkx : (k = x) = False := by simp; intro e; exact hxm (e ▸ hk)
        have p5 := fun bx => p3 bx k hk hkn
        simp (decide := true) only [go_sem, reduceIte, reduceCtorEq, Nat.reduceEqDiff, Nat.reduceAdd, Nat.reduceMul, Nat.reduceSub, Nat.reduceLeDiff, Nat.reduceBEq, hkx, p5]
    · simp
end Go.Proofs.Ytffcabenoakmgaa

/- Contract of the sorted list of rows: take. -/
namespace Go.Proofs.Ytffcabenoakmgaa
open Go.Dl
attribute [local irreducible] DW DCalls ECalls wk

/-- The row at the place i taken out, if it has the gloss. -/
def takeRw (rows : Dl.Rows) (gs : List ByteArray) (g : ByteArray) (i : Nat) : Dl.Rows := if gs[i]?.map (fun q => cmpS q g) = some 0 then rows.take i ++ rows.drop (i + 1) else rows

--F46
set_option maxRecDepth 10000 in
set_option maxHeartbeats 8000000 in
theorem takeR_E (x K : Nat) (hx : NB ≤ x) (hK : 1000 ≤ K) (hK2 : K < 100000) (H : Mem) (hH : MemOk H) (rows : Dl.Rows) (gs : List ByteArray) (j : Nat) (g : ByteArray) (hl : rows.length ≤ 10000)
    (hgl : gs.length = rows.length) (hgs : ∀ (q : Nat) a, gs[q]? = some a → ∃ t, rows[q]? = some [.c (ls a), t]) (hz : RowsSz 2 rows)
    (hxr : H x = some [[.ba K 2 0 rows.length (rows.length + j), .c (.fn 41 [])]]) (hKr : H K = some (rows ++ anyRows j 2)) :
    ECalls Try.prog 46 [.one (.bx x 2 0 0), .agg [.c (ls g), .ex 3 []]] H
      (fun r H' => ∃ i j', BsOk (bsG gs g) rows.length i ∧ r = .tup [] ∧ H' x = some [[.ba K 2 0 (takeRw rows gs g i).length ((takeRw rows gs g i).length + j'), .c (.fn 41 [])]] ∧ H' K = some (takeRw rows gs g i ++ anyRows j' 2) ∧ ∀ k, mid k → k ≠ K → H' k = H k) := by
  have hrM : Dl.Rows.Mids rows := fun r hr => (hH K _ hKr).2 r (List.mem_append_left _ hr)
  have hnM : ∀ i j', Dl.Rows.Mids (takeRw rows gs g i ++ anyRows j' 2) := fun i j' => Rows.mids_append (fun r hr => by
    unfold takeRw at hr
    split at hr
    · simp only [List.mem_append] at hr
      rcases hr with h | h
      · exact hrM r (List.mem_of_mem_take h)
      · exact hrM r (List.mem_of_mem_drop h)
    · exact hrM r hr) (anyRows_mids _ _)
  have hNB := NB_big
  have hmax : (1000000 : Nat) < maxLen := by simp [maxLen]
  have hKm : mid K := ⟨hK, by omega⟩
  have hxm : ¬ mid x := notmidNB hx
  have hxK : ¬ x = K := by omega
  have hKx : ¬ K = x := by omega
  have hxlt : (x < NB) = False := by simp; omega
  have hKlt : (K < NB) = True := by simp; omega
  have hK1 : (1000 ≤ K) = True := by simp [hK]
  have hne : ∀ k, k < 1000 → (K = k) = False := fun k hk => by simp; omega
  have hxe : ∀ k, k < 1000 → (x = k) = False := fun k hk => by simp; omega
  have hxe2 : ∀ k, k < 1000 → (k = x) = False := fun k hk => by simp; omega
  have hfg : ∀ (m k : Nat), m < 1000 → (H k).map (Dl.Rows.tr (fgt m)) = H k := fun m k hm => hH.fgt hm k
  have hxM : ∀ r, H x = some r → Dl.Rows.Mids r := fun r hr => (hH x r hr).2
  refine ecalls (N := 31) (rs := []) (by kernel_rfl) Try.func46 rfl rfl rfl (by simp) ?_
  (repeat (first | (refine dw_seq ?_) | (refine dw_block ?_) | ((first | (refine dw_reg (N := 31) rfl (by kernel_rfl) ?_) | (apply dw_drw (id := 1) (N := 31) [(0, .light), (1, .light), (2, .light), (3, .light), (4, .light), (5, .light), (6, .light), (7, .light), (8, .light), (9, .step), (10, .light), (11, .light), (12, .light), (13, .light), (14, .light)]; kernel_rfl; rfl; kernel_rfl; (repeat (first | exact Picks.nil | (apply Picks.cons; rfl)))) | (refine dw_skip ?_) | (refine dw_exit ?_)); simp (decide := true) only [go_sem, reduceIte, reduceCtorEq, Nat.reduceEqDiff, Nat.reduceAdd, Nat.reduceMul, Nat.reduceSub, Nat.reduceLeDiff, Nat.reduceBEq, hxe, hne, hfg, hxr, hxlt])))
  have hbs := bsR_E K (rows.length + j) hK (carry x (H x) H) (carry_ok hH hxM) (rows ++ anyRows j 2) (by rw [carry_mid hKm, hKr]) gs g (fun q a hq => by obtain ⟨t, ht⟩ := hgs q a hq; exact ⟨t, by rw [List.getElem?_append_left (List.getElem?_eq_some_iff.1 ht).1, ht]⟩) (by omega)
  rw [hgl] at hbs
  refine CallC.eff (caps := []) [x] hbs (by simp (decide := true) only [go_sem, reduceIte, reduceCtorEq, Nat.reduceEqDiff, Nat.reduceAdd, Nat.reduceMul, Nat.reduceSub, Nat.reduceLeDiff, Nat.reduceBEq]) (DLeL.of_eq (by simp (decide := true) only [go_sem, reduceIte, reduceCtorEq, Nat.reduceEqDiff, Nat.reduceAdd, Nat.reduceMul, Nat.reduceSub, Nat.reduceLeDiff, Nat.reduceBEq, hKx, hxlt, hKlt, hK1])) (carry_call hH hxm (by simp (decide := true) only [go_sem, reduceIte, reduceCtorEq, Nat.reduceEqDiff, Nat.reduceAdd, Nat.reduceMul, Nat.reduceSub, Nat.reduceLeDiff, Nat.reduceBEq, hxe, hfg]) hxM (fun k hk => ?_)) ⟨by simpa using hxm, fun m hm => by simp at hm; subst hm; simp; omega⟩ ?_
  · have hmk : ∀ m, m < 1000 → (k = m) = False := fun m hm => by simp; have := hk.1; omega
    simp (decide := true) only [go_sem, reduceIte, reduceCtorEq, Nat.reduceEqDiff, Nat.reduceAdd, Nat.reduceMul, Nat.reduceSub, Nat.reduceLeDiff, Nat.reduceBEq, hmk, hfg]
  rintro r H1 ⟨⟨i, hb, rfl⟩, h1⟩
  have g1 : H1 (x + NB) = H x := by rw [h1 _ (by omega), carry_x]
  have g2 : ∀ k, mid k → H1 k = H k := fun k hk => by rw [h1 k hk.1, carry_mid hk]
  have q1 : ∀ bx, callMemAft bx H1 [x] (some 16) x = H x := fun bx => aft_x (by simp; omega) hxM g1
  have q2 : ∀ bx k, mid k → callMemAft bx H1 [x] (some 16) k = H k := fun bx k hk => aft_mid hk (fun e => hxm (e ▸ hk)) (by simp; have := hk.1; omega) (g2 k hk) (fun r hr => (hH k r hr).2)
  have q3 : ∀ bx, callMemAft bx H1 [x] (some 16) 3 = (bx 3).map (Dl.Rows.tr (aft [x] (some 16))) := fun bx => aft_low (by omega) (by omega) (by simp)
  simp (decide := true) only [go_sem, reduceIte, reduceCtorEq, Nat.reduceEqDiff, Nat.reduceAdd, Nat.reduceMul, Nat.reduceSub, Nat.reduceLeDiff, Nat.reduceBEq, hxlt]
  (repeat (first | (refine dw_seq ?_) | (refine dw_block ?_) | ((first | (refine dw_reg (N := 31) rfl (by kernel_rfl) ?_) | (apply dw_drw (id := 1) (N := 31) [(0, .light), (1, .light), (2, .light), (3, .light), (4, .light), (5, .light), (6, .light), (7, .light), (8, .light), (9, .step), (10, .light), (11, .light), (12, .light), (13, .light), (14, .light)]; kernel_rfl; rfl; kernel_rfl; (repeat (first | exact Picks.nil | (apply Picks.cons; rfl)))) | (refine dw_skip ?_) | (refine dw_exit ?_)); simp (decide := true) only [go_sem, reduceIte, reduceCtorEq, Nat.reduceEqDiff, Nat.reduceAdd, Nat.reduceMul, Nat.reduceSub, Nat.reduceLeDiff, Nat.reduceBEq])))
  by_cases hf : gs[i]?.map (fun q => cmpS q g) = some 0
  · have hf' : decide (gs[i]?.map (fun q => cmpS q g) = some 0) = true := by simpa using hf
    have hil : i < rows.length := by
      rcases Nat.lt_or_ge i rows.length with h | h
      · exact h
      · rw [List.getElem?_eq_none (by omega)] at hf; cases hf
    have hpl : rows.length = rows.length := rfl
    have hw := wrap_succ i (by omega)
    apply dw_cond; (simp (decide := true) only [go_sem, reduceIte, reduceCtorEq, Nat.reduceEqDiff, Nat.reduceAdd, Nat.reduceMul, Nat.reduceSub, Nat.reduceLeDiff, Nat.reduceBEq, hf']; rfl)
    · intro _
      have hdel := delR_E K hK (carry x (H x) H) rows j (by rw [carry_mid hKm, hKr]) hz i (by rw [hpl]; exact hil) (by rw [hpl]; omega)
      rw [hpl] at hdel
      (repeat (first | (refine dw_seq ?_) | (refine dw_block ?_) | ((first | (refine dw_reg (N := 31) rfl (by kernel_rfl) ?_) | (apply dw_drw (id := 1) (N := 31) [(0, .light), (1, .light), (2, .light), (3, .light), (4, .light), (5, .light), (6, .light), (7, .light), (8, .light), (9, .step), (10, .light), (11, .light), (12, .light), (13, .light), (14, .light)]; kernel_rfl; rfl; kernel_rfl; (repeat (first | exact Picks.nil | (apply Picks.cons; rfl)))) | (refine dw_skip ?_) | (refine dw_exit ?_)); simp (decide := true) only [go_sem, reduceIte, reduceCtorEq, Nat.reduceEqDiff, Nat.reduceAdd, Nat.reduceMul, Nat.reduceSub, Nat.reduceLeDiff, Nat.reduceBEq, hxe, hxe2, hxlt, q1, q3, hxr, hne, hw])))
      refine CallC.eff (caps := []) [x] hdel (by simp (decide := true) only [go_sem, reduceIte, reduceCtorEq, Nat.reduceEqDiff, Nat.reduceAdd, Nat.reduceMul, Nat.reduceSub, Nat.reduceLeDiff, Nat.reduceBEq]) (DLeL.of_eq (by simp (decide := true) only [go_sem, reduceIte, reduceCtorEq, Nat.reduceEqDiff, Nat.reduceAdd, Nat.reduceMul, Nat.reduceSub, Nat.reduceLeDiff, Nat.reduceBEq, hKx, hxlt, hKlt, hK1, hne])) (carry_call hH hxm (by simp (decide := true) only [go_sem, reduceIte, reduceCtorEq, Nat.reduceEqDiff, Nat.reduceAdd, Nat.reduceMul, Nat.reduceSub, Nat.reduceLeDiff, Nat.reduceBEq, q1]) hxM (fun k hk => ?_)) ⟨by simpa using hxm, fun m hm => by simp at hm; subst hm; simp; omega⟩ ?_
      · have q5 := fun bx => q2 bx k hk
        simp (decide := true) only [go_sem, reduceIte, reduceCtorEq, Nat.reduceEqDiff, Nat.reduceAdd, Nat.reduceMul, Nat.reduceSub, Nat.reduceLeDiff, Nat.reduceBEq, q5]
      rintro r H2 ⟨rfl, h2, h3⟩
      have hKnb : (NB ≤ K) = False := by simp; omega
      have hnew : rows.take i ++ (rows.drop (i + 1) ++ anyRows (j + 1) 2) = takeRw rows gs g i ++ anyRows (j + 1) 2 := by
        simp [takeRw, hf, List.map_take, List.map_drop]
      rw [hnew] at h2
      have hpl2 : (takeRw rows gs g i).length = rows.length - 1 := by
        simp [takeRw, hf]; omega
      have hpl3 : rows.length - 1 + (j + 1) = rows.length + j := by omega
      have g4 : ∀ k, mid k → k ≠ K → H2 k = H k := fun k hk hkn => by rw [h3 k hk.1 hkn, carry_mid hk]
      have g5 : H2 (x + NB) = H x := by rw [h3 _ (by omega) (by omega), carry_x]
      have p1 : ∀ bx, callMemAft bx H2 [x] (some 28) x = H x := fun bx => aft_x (by simp; omega) hxM g5
      have p2 : ∀ bx, callMemAft bx H2 [x] (some 28) K = some (takeRw rows gs g i ++ anyRows (j + 1) 2) := fun bx => aft_mid hKm (by omega) (by simp; omega) h2 (fun r hr => by injection hr with hr; subst hr; exact hnM i (j + 1))
      have p3 : ∀ bx k, mid k → k ≠ K → callMemAft bx H2 [x] (some 28) k = H k := fun bx k hk hkn => aft_mid hk (fun e => hxm (e ▸ hk)) (by simp; have := hk.1; omega) (g4 k hk hkn) (fun r hr => (hH k r hr).2)
      simp (decide := true) only [go_sem, reduceIte, reduceCtorEq, Nat.reduceEqDiff, Nat.reduceAdd, Nat.reduceMul, Nat.reduceSub, Nat.reduceLeDiff, Nat.reduceBEq, hne, hxe, hxe2, hxlt, p1, hxr, hK1, hKlt, hKnb]
      (repeat (first | (refine dw_seq ?_) | (refine dw_block ?_) | ((first | (refine dw_reg (N := 31) rfl (by kernel_rfl) ?_) | (apply dw_drw (id := 1) (N := 31) [(0, .light), (1, .light), (2, .light), (3, .light), (4, .light), (5, .light), (6, .light), (7, .light), (8, .light), (9, .step), (10, .light), (11, .light), (12, .light), (13, .light), (14, .light)]; kernel_rfl; rfl; kernel_rfl; (repeat (first | exact Picks.nil | (apply Picks.cons; rfl)))) | (refine dw_skip ?_) | (refine dw_exit ?_)); simp (decide := true) only [go_sem, reduceIte, reduceCtorEq, Nat.reduceEqDiff, Nat.reduceAdd, Nat.reduceMul, Nat.reduceSub, Nat.reduceLeDiff, Nat.reduceBEq, hne, hxe, hxe2, hxlt, p1, hxr, hK1, hKlt, hKnb])))
      refine ⟨i, j + 1, hb, by rw [hpl2, hpl3], ?_, fun k hk hkn => ?_⟩
      · have hKx2 : (K = x) = False := by simp [hKx]
        simp (decide := true) only [go_sem, reduceIte, reduceCtorEq, Nat.reduceEqDiff, Nat.reduceAdd, Nat.reduceMul, Nat.reduceSub, Nat.reduceLeDiff, Nat.reduceBEq, hKx2, p2]
      · have hkx : (k = x) = False := by simp; intro e; exact hxm (e ▸ hk)
        have p5 := fun bx => p3 bx k hk hkn
        simp (decide := true) only [go_sem, reduceIte, reduceCtorEq, Nat.reduceEqDiff, Nat.reduceAdd, Nat.reduceMul, Nat.reduceSub, Nat.reduceLeDiff, Nat.reduceBEq, hkx, p5]
    · simp
  · have hf' : decide (gs[i]?.map (fun q => cmpS q g) = some 0) = false := by simpa using hf
    apply dw_cond; (simp (decide := true) only [go_sem, reduceIte, reduceCtorEq, Nat.reduceEqDiff, Nat.reduceAdd, Nat.reduceMul, Nat.reduceSub, Nat.reduceLeDiff, Nat.reduceBEq, hf']; rfl)
    · simp
    intro _
    have hpa : takeRw rows gs g i = rows := by simp [takeRw, hf]
    (repeat (first | (refine dw_seq ?_) | (refine dw_block ?_) | ((first | (refine dw_reg (N := 31) rfl (by kernel_rfl) ?_) | (apply dw_drw (id := 1) (N := 31) [(0, .light), (1, .light), (2, .light), (3, .light), (4, .light), (5, .light), (6, .light), (7, .light), (8, .light), (9, .step), (10, .light), (11, .light), (12, .light), (13, .light), (14, .light)]; kernel_rfl; rfl; kernel_rfl; (repeat (first | exact Picks.nil | (apply Picks.cons; rfl)))) | (refine dw_skip ?_) | (refine dw_exit ?_)); simp (decide := true) only [go_sem, reduceIte, reduceCtorEq, Nat.reduceEqDiff, Nat.reduceAdd, Nat.reduceMul, Nat.reduceSub, Nat.reduceLeDiff, Nat.reduceBEq, q1, hxr])))
    refine ⟨i, j, hb, by rw [hpa], ?_, fun k hk hkn => ?_⟩
    · rw [hpa, ← hKr]
      simp (decide := true) only [go_sem, reduceIte, reduceCtorEq, Nat.reduceEqDiff, Nat.reduceAdd, Nat.reduceMul, Nat.reduceSub, Nat.reduceLeDiff, Nat.reduceBEq, q2 _ K hKm]
    · have q4 := fun bx => q2 bx k hk
      simp (decide := true) only [go_sem, reduceIte, reduceCtorEq, Nat.reduceEqDiff, Nat.reduceAdd, Nat.reduceMul, Nat.reduceSub, Nat.reduceLeDiff, Nat.reduceBEq, q4]
end Go.Proofs.Ytffcabenoakmgaa

/- The index of the program, as data: its rows, and for each row a memory of its own. -/
namespace Go.Proofs.Ytffcabenoakmgaa
open Go.Dl
attribute [local irreducible] DW DCalls ECalls wk

structure IRow where
  gloss : ByteArray
  k : Nat
  ps : List Part
  j : Nat

def irow (r : IRow) : List T := [.c (ls r.gloss), .ba r.k 3 0 r.ps.length (r.ps.length + r.j)]
def kmem (r : IRow) : Dl.Rows := r.ps.map pRow ++ anyRows r.j 3

/-- The memories of an index: its box X, its rows (1000), the parts of each row. -/
def ixM (X : Nat) (L : List IRow) (jr : Nat) : Mem := fun k =>
  if k = X then some [[.ba 1000 2 0 L.length (L.length + jr), .c (.fn 41 [])]]
  else if k = 1000 then some (L.map irow ++ anyRows jr 2)
  else (L.find? fun r => r.k == k).map kmem

/-- The names of the rows are names between, each its own. -/
structure IxOk (B : Nat) (L : List IRow) : Prop where
  hB : B ≤ 90000
  nd : (L.map (·.k)).Nodup
  rng : ∀ r ∈ L, 1001 ≤ r.k ∧ r.k < B
  len : L.length ≤ 5000
  lens : ∀ r ∈ L, r.ps.length ≤ 5000

theorem find_k {L : List IRow} (hnd : (L.map (·.k)).Nodup) {r : IRow} (hr : r ∈ L) : (L.find? fun q => q.k == r.k) = some r := by
  induction L with
  | nil => cases hr
  | cons a l ih =>
    simp only [List.map_cons, List.nodup_cons, List.mem_map, not_exists, not_and] at hnd
    rcases List.mem_cons.1 hr with rfl | h
    · simp
    · have : ¬ a.k = r.k := fun e => hnd.1 r h e.symm
      rw [List.find?_cons_of_neg (by simpa using this)]
      exact ih hnd.2 h

theorem ixM_x (X : Nat) (L : List IRow) (jr : Nat) : ixM X L jr X = some [[.ba 1000 2 0 L.length (L.length + jr), .c (.fn 41 [])]] := by simp [ixM]
theorem ixM_r {X : Nat} (hX : X ≠ 1000) (L : List IRow) (jr : Nat) : ixM X L jr 1000 = some (L.map irow ++ anyRows jr 2) := by
  simp [ixM, Ne.symm hX]
theorem ixM_k {X B : Nat} {L : List IRow} (jr : Nat) (h : IxOk B L) (hX : ¬ mid X) {r : IRow} (hr : r ∈ L) : ixM X L jr r.k = some (kmem r) := by
  have hNB := NB_big
  have h1 := h.rng r hr
  have hB := h.hB
  have h2 : ¬ r.k = X := fun e => hX (e ▸ ⟨by omega, by omega⟩)
  have h3 : ¬ r.k = 1000 := by omega
  simp only [ixM, if_neg h2, if_neg h3, find_k h.nd hr, Option.map_some]

theorem kmem_mids (r : IRow) : Dl.Rows.Mids (kmem r) := pRows_mids _ _
theorem irow_mids {r : IRow} (h : mid r.k) : T.MidsAll (irow r) := ⟨trivial, h, trivial⟩
theorem rrows_mids {B : Nat} {L : List IRow} (h : IxOk B L) (jr : Nat) : Dl.Rows.Mids (L.map irow ++ anyRows jr 2) := by
  have hNB := NB_big
  refine Rows.mids_append (fun x hx => ?_) (anyRows_mids _ _)
  obtain ⟨r, hr, rfl⟩ := List.mem_map.1 hx
  have := h.rng r hr
  have hB := h.hB
  exact irow_mids ⟨by omega, by omega⟩

theorem ixM_ok {X : Nat} (hX : NB ≤ X) {B : Nat} {L : List IRow} (h : IxOk B L) (jr : Nat) : MemOk (ixM X L jr) := fun k r hk => by
  have hNB := NB_big
  unfold ixM at hk
  split at hk
  · rename_i e; injection hk with hk; subst hk
    refine ⟨by omega, fun x hx => ?_⟩
    rw [List.mem_singleton.1 hx]
    exact ⟨⟨Nat.le_refl _, by omega⟩, trivial, trivial⟩
  · split at hk
    · rename_i e; injection hk with hk; subst hk
      exact ⟨by omega, rrows_mids h jr⟩
    · simp only [Option.map_eq_some_iff] at hk
      obtain ⟨q, hq, rfl⟩ := hk
      have hm := List.mem_of_find?_eq_some hq
      have hkq := List.find?_some hq
      have := h.rng q hm
      have hB := h.hB
      simp only [beq_iff_eq] at hkq
      exact ⟨by omega, kmem_mids q⟩

theorem ixM_fix {X B : Nat} {L : List IRow} (h : IxOk B L) (jr : Nat) : ∀ k r, ixM X L jr k = some r → k ≠ X → FixX 1000 r := fun k r hk hkX => by
  have hNB := NB_big
  unfold ixM at hk
  rw [if_neg hkX] at hk
  split at hk
  · injection hk with hk; subst hk
    intro q hq
    rw [Rows.tr_append, anyRows_tr]
    congr 1
    unfold Dl.Rows.tr
    rw [List.map_map]
    refine List.map_congr_left fun x hx => ?_
    have hr := h.rng x hx
    have hB := h.hB
    have := (hq x.k ⟨by omega, by omega⟩ (by omega)).2
    simp only [Function.comp, irow, T.trAll, T.tr, this, T.baTo]
  · simp only [Option.map_eq_some_iff] at hk
    obtain ⟨q, hq, rfl⟩ := hk
    intro r hr
    unfold kmem
    rw [Rows.tr_append, anyRows_tr]
    congr 1
    have := fix_c 1000 (q.ps.map Part.enc) r hr
    have e : q.ps.map pRow = (q.ps.map Part.enc).map (List.map T.c) := by rw [List.map_map]; rfl
    rw [e]; exact this

theorem irow_sz (L : List IRow) : RowsSz 2 (L.map irow) := fun r hr => by
  obtain ⟨p, _, rfl⟩ := List.mem_map.1 hr
  rfl
theorem irow_get (L : List IRow) (q : Nat) (a : ByteArray) (h : (L.map (·.gloss))[q]? = some a) : ∃ t, (L.map irow)[q]? = some [.c (ls a), t] := by
  rw [List.getElem?_map] at h ⊢
  cases hc : L[q]? with
  | none => rw [hc] at h; cases h
  | some r => rw [hc] at h; injection h with h; subst h; exact ⟨_, rfl⟩

theorem aftM_keepX (K : Nat) {m : Nat} (hm : m < 1000) : KeepX K (aftM (fun k => k == K) [10] (some m)) := fun k hk hkn => by
  have h1 : k ∉ [10] := by simp; have := hk.1; omega
  have h2 : ¬ midM (fun k => k == K) k := fun h => hkn (by have := h.2.2; simpa using this)
  have h3 : ¬ (some m = some k) := by simp; have := hk.1; omega
  simp only [aftM, h1, h2, h3, or_self, if_false, and_self]

/-- The other memories do not name K. -/
theorem ixM_fixK {X K : Nat} (hK : K ≠ 1000) {L : List IRow} (jr : Nat) : ∀ k r, ixM X L jr k = some r → k ≠ 1000 → FixX K r := fun k r hk hk1 => by
  have hNB := NB_big
  unfold ixM at hk
  split at hk
  · injection hk with hk; subst hk
    intro q hq
    have := (hq 1000 ⟨Nat.le_refl _, by omega⟩ (Ne.symm hK)).2
    simp [Rows.tr, T.trAll, T.tr, this, T.baTo]
  · simp only [if_neg hk1, Option.map_eq_some_iff] at hk
    obtain ⟨q, hq, rfl⟩ := hk
    intro r hr
    unfold kmem
    rw [Rows.tr_append, anyRows_tr]
    congr 1
    have := fix_c K (q.ps.map Part.enc) r hr
    have e : q.ps.map pRow = (q.ps.map Part.enc).map (List.map T.c) := by rw [List.map_map]; rfl
    rw [e]; exact this

theorem ixM_keep {X K : Nat} (hK : K ≠ 1000) {L : List IRow} (jr : Nat) {r : Ren} (hr : KeepX K r) {k : Nat} (hk : k ≠ 1000) : (ixM X L jr k).map (Dl.Rows.tr r) = ixM X L jr k := by
  cases hc : ixM X L jr k with
  | none => rfl
  | some x => rw [Option.map_some, ixM_fixK hK jr k x hc hk r hr]

theorem rows_fgtK {B : Nat} {L : List IRow} (h : IxOk B L) (K jr : Nat) {r : Ren} (hr : KeepX K r) (hK : r.g K = none) : Dl.Rows.tr r (L.map irow ++ anyRows jr 2) = Dl.Rows.tr (fgt K) (L.map irow ++ anyRows jr 2) := by
  have hNB := NB_big
  rw [Rows.tr_append, Rows.tr_append, anyRows_tr, anyRows_tr]
  congr 1
  unfold Dl.Rows.tr
  rw [List.map_map, List.map_map]
  refine List.map_congr_left fun x hx => ?_
  have h1 := h.rng x hx
  have hB := h.hB
  by_cases hxk : x.k = K
  · simp only [Function.comp, irow, T.trAll, T.tr, hxk, hK, fgt, if_true, T.baTo]
  · have := (hr x.k ⟨by omega, by omega⟩ hxk).2
    simp only [Function.comp, irow, T.trAll, T.tr, this, fgt, if_neg hxk]

theorem aftM_gK {K : Nat} (hK : mid K) (m : Option Nat) : (aftM (fun k => k == K) [10] m).g K = none := by
  have h2 : midM (fun k => k == K) K := ⟨hK.1, hK.2, by simp⟩
  simp [aftM, h2]
end Go.Proofs.Ytffcabenoakmgaa

/- The index as data: one row turned. -/
namespace Go.Proofs.Ytffcabenoakmgaa
open Go.Dl

theorem names_set {L : List IRow} {a : Nat} {r r2 : IRow} (hr : L[a]? = some r) (hk : r2.k = r.k) : (L.set a r2).map (·.k) = L.map (·.k) := by
  rw [List.map_set]
  apply List.ext_getElem?
  intro q
  rw [List.getElem?_set]
  split
  · rename_i h; subst h
    have hl : a < L.length := (List.getElem?_eq_some_iff.1 hr).1
    rw [if_pos (by simpa using hl), List.getElem?_map, hr, Option.map_some, hk]
  · rfl

theorem find_set {k : Nat} {r2 : IRow} (hk : r2.k ≠ k) : ∀ (L : List IRow) (a : Nat) (r : IRow), L[a]? = some r → r.k ≠ k → ((L.set a r2).find? fun q => q.k == k) = L.find? fun q => q.k == k
  | [], a, r, h, _ => by simp at h
  | x :: l, 0, r, h, hr => by
    simp only [List.getElem?_cons_zero, Option.some.injEq] at h
    subst h
    rw [List.set_cons_zero, List.find?_cons_of_neg (by simpa using hk), List.find?_cons_of_neg (by simpa using hr)]
  | x :: l, a + 1, r, h, hr => by
    rw [List.set_cons_succ]
    by_cases hx : x.k = k
    · rw [List.find?_cons_of_pos (by simpa using hx), List.find?_cons_of_pos (by simpa using hx)]
    · rw [List.find?_cons_of_neg (by simpa using hx), List.find?_cons_of_neg (by simpa using hx)]
      exact find_set hk l a r (by simpa using h) hr

theorem IxOk.set {B : Nat} {L : List IRow} (h : IxOk B L) {a : Nat} {r r2 : IRow} (hr : L[a]? = some r) (hk : r2.k = r.k) (hl : r2.ps.length ≤ 5000) : IxOk B (L.set a r2) := by
  refine ⟨h.hB, by rw [names_set hr hk]; exact h.nd, fun x hx => ?_, by rw [List.length_set]; exact h.len, fun x hx => ?_⟩
  · rcases List.mem_or_eq_of_mem_set hx with hx | rfl
    · exact h.rng x hx
    · rw [hk]; exact h.rng r (List.mem_of_getElem? hr)
  · rcases List.mem_or_eq_of_mem_set hx with hx | rfl
    · exact h.lens x hx
    · exact hl

theorem rows_set {B : Nat} {L : List IRow} (h : IxOk B L) {a : Nat} {r r2 : IRow} (hr : L[a]? = some r) (jr : Nat) : (Dl.Rows.tr (fgt r.k) (L.map irow ++ anyRows jr 2)).set a (irow r2) = (L.set a r2).map irow ++ anyRows jr 2 := by
  have hl : a < L.length := (List.getElem?_eq_some_iff.1 hr).1
  rw [Rows.tr_append, anyRows_tr, List.set_append_left _ _ (by simp [Rows.tr, hl]), List.map_set]
  congr 1
  apply List.ext_getElem?
  intro q
  rw [List.getElem?_set, List.getElem?_set]
  by_cases hq : a = q
  · subst hq
    simp [Rows.tr, hl]
  · simp only [if_neg hq, Rows.tr, List.getElem?_map]
    cases hx : L[q]? with
    | none => rfl
    | some x =>
      have hne : x.k ≠ r.k := fun e => by
        have hql : q < L.length := (List.getElem?_eq_some_iff.1 hx).1
        have := (List.getElem?_inj (i := q) (j := a) (l := L.map (·.k)) (by simpa using hql) h.nd).1 (by rw [List.getElem?_map, List.getElem?_map, hx, hr, Option.map_some, Option.map_some, e])
        exact hq this.symm
      simp only [Option.map_some, irow, T.trAll, T.tr, fgt, if_neg hne, T.baTo]

theorem ixM_set {X B : Nat} (hX : ¬ mid X) {L : List IRow} (h : IxOk B L) {a : Nat} {r r2 : IRow} (hr : L[a]? = some r) (hk : r2.k = r.k) (jr k : Nat) : ixM X (L.set a r2) jr k =
    if k = r.k then some (kmem r2) else if k = 1000 then some ((Dl.Rows.tr (fgt r.k) (L.map irow ++ anyRows jr 2)).set a (irow r2)) else ixM X L jr k := by
  have hNB := NB_big
  have hB := h.hB
  have hrng := h.rng r (List.mem_of_getElem? hr)
  have hl : a < L.length := (List.getElem?_eq_some_iff.1 hr).1
  have hkX : r.k ≠ X := fun e => hX (e ▸ ⟨by omega, by omega⟩)
  have h1X : (1000 : Nat) ≠ X := fun e => hX (e ▸ ⟨Nat.le_refl _, by omega⟩)
  by_cases h1 : k = r.k
  · subst h1
    have hnd : ((L.set a r2).map (·.k)).Nodup := by rw [names_set hr hk]; exact h.nd
    have hm : r2 ∈ L.set a r2 := List.mem_of_getElem? (i := a) (by rw [List.getElem?_set, if_pos rfl, if_pos hl])
    have := find_k hnd hm
    rw [hk] at this
    rw [if_pos rfl]
    simp only [ixM, if_neg hkX, if_neg (show ¬ r.k = 1000 by omega), this, Option.map_some]
  · rw [if_neg h1]
    by_cases h2 : k = 1000
    · subst h2
      rw [if_pos rfl, rows_set h hr jr]
      simp only [ixM, if_neg h1X, if_true]
    · rw [if_neg h2]
      by_cases h3 : k = X
      · subst h3
        simp only [ixM, if_true, List.length_set]
      · simp only [ixM, if_neg h3, if_neg h2]
        rw [find_set (by rw [hk]; exact fun e => h1 e.symm) L a r hr (fun e => h1 e.symm)]
end Go.Proofs.Ytffcabenoakmgaa
