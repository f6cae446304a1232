/- Dictionaries: the law that entries and sections are in order. -/
import Derived.Sort.Walk0
import Derived.Test.YtehdkccjaeckhaaGreatDoorm5
set_option linter.all false
set_option linter.unusedVariables false
set_option linter.unusedSimpArgs false
set_option maxRecDepth 10000
set_option maxHeartbeats 8000000
namespace Go.Proofs.YtehdkccjaeckhaaGreatDoor
abbrev kpxg33:List (Nat×Go.Dl.Mode):= [(0,.light),(1,.light),(2,.light),(3,.light),(4,.light),(5,.light),(6,.light),(7,.step),(8,.light),(9,.light)]
abbrev kpxg34:List (Nat×Go.Dl.Mode):= [(0,.light),(1,.light),(2,.light),(3,.light),(4,.light),(5,.light),(6,.light),(7,.light),(8,.light),(9,.light),(10,.light),(11,.light),(12,.light),(13,.light),(14,.light),(15,.light),(16,.light),(17,.light)]
abbrev kt36:Nat→List (Nat×Go.Dl.Mode):=fun n=>match n with|18=>kpm17|_=> [(9999,.light)]
abbrev kt37:Nat→List (Nat×Go.Dl.Mode):=fun n=>match n with|4=>kpm3|6=>kpm3|_=> [(9999,.light)]
abbrev kt48:Nat→List (Nat×Go.Dl.Mode):=fun n=>match n with|2=>kpm30|_=> [(9999,.light)]
abbrev kt63:Nat→List (Nat×Go.Dl.Mode):=fun n=>match n with|9=>kpxg33|11=>kpxg34|13=>kpxg33|_=> [(9999,.light)]
end Go.Proofs.YtehdkccjaeckhaaGreatDoor
open Go.Dl renaming dw_seq → kA, dw_block → kB, dw_reg → kC, dw_skip → kD, dw_exit → kE, dw_ret → kF, dw_cond → kG, guardC_f → kH, guardC_t → kI, dw_drw → kJ, dw_weaken → kK, sub_kn → kL, sub_ml → kM
open Go.Dl.CallC renaming mk → kN, light → kO
open Go.Dl.LeL renaming of_eq → kP
namespace Go.Dl
open Go.RowKit
noncomputable section
section
variable {P : Program}
theorem any_only{ops:List Oper}{N:Nat}(hb:dstB ops N=true){K:DS→Prop}{fuel:Nat}{listed:Array Bool}{s:DS}{i:Nat}{o:Oper}(hr:Region.ready .any ops.toArray listed= [i])(ho:ops[i]? =some o)
  (h:guardS P ops o s (AnyOk P ops N K fuel (listed.setIfInBounds i true))):AnyOk P ops N K (fuel+1) listed s:=by
 intro hn X a w hrel
 refine wpAny_all hr (by simp) fun j hj=>?_
 have hji:j=i:=by simpa using hj
 subst hji
 have hd:=dst_of hb ho
 unfold wpOp
 have ho':ops.toArray[j]? =some o:=by simpa using ho
 simp only[ho']
 unfold guardS at h
 split at h
 ·rename_i t ht
  rw[wantD_ok ht hrel]
  split at h
  ·rename_i h3
   rw[if_pos h3]
   refine .inl (Oper.wp_mono ?_ (h (fun d hd'=>by rw[hn];exact hd d hd') X a w hrel _))
   rintro a' w' ⟨s',⟨hn',hs'⟩,hr'⟩
   exact hs' (hn'.trans hn) X a' w' hr'
  ·rename_i h3
   rw[if_neg h3]
   exact h (by rw[put_n];exact hn) X _ w (putAny hrel (fun d hd'=>by rw[hn];exact hd d hd'))
 ·exact h.elim
end
end
end Go.Dl
namespace Go.Dl
open Go.RowKit
noncomputable section
def runOk(ops:List Oper):List Nat→Array Bool→Bool
 | [],_=>true
 | i::l,listed=>(Region.ready .any ops.toArray listed== [i])&&runOk ops l (listed.setIfInBounds i true)
section
variable {P : Program}
theorem any_each{ops:List Oper}{N:Nat}(hb:dstB ops N=true){K:DS→Prop}{fuel:Nat}{listed:Array Bool}{s:DS}{l:List Nat}(hr:Region.ready .any ops.toArray listed=l)(hne:l≠ [])
  (h: ∀i∈l,∃o,ops[i]? =some o∧guardS P ops o s (AnyOk P ops N K fuel (listed.setIfInBounds i true))):AnyOk P ops N K (fuel+1) listed s:=by
 intro hn X a w hrel
 refine wpAny_all hr hne fun j hj=>?_
 obtain⟨o,ho,h⟩:=h j hj
 have hd:=dst_of hb ho
 unfold wpOp
 have ho':ops.toArray[j]? =some o:=by simpa using ho
 simp only[ho']
 unfold guardS at h
 split at h
 ·rename_i t ht
  rw[wantD_ok ht hrel]
  split at h
  ·rename_i h3
   rw[if_pos h3]
   refine .inl (Oper.wp_mono ?_ (h (fun d hd'=>by rw[hn];exact hd d hd') X a w hrel _))
   rintro a' w' ⟨s',⟨hn',hs'⟩,hr'⟩
   exact hs' (hn'.trans hn) X a' w' hr'
  ·rename_i h3
   rw[if_neg h3]
   exact h (by rw[put_n];exact hn) X _ w (putAny hrel (fun d hd'=>by rw[hn];exact hd d hd'))
 ·exact h.elim
theorem wk_guardS{ops:List Oper}{o:Oper}{l:List (Mode×Oper)}{s:DS}{K:DS→Prop}{p:Prop} [Decidable p](h:wk P (ops.map (·.dst)) ((if p then .hand else .step,o)::l) s K):guardS P ops o s fun s'=>wk P (ops.map (·.dst)) l s' K:=by
 have h:=wk_cons h
 unfold GIs at h
 simp only[guardS]
 split at h
 ·rename_i hw
  simp only[hw,if_true]
  split at h
  ·cases h with
   | hand h=>exact h
  ·cases h with
   | step h=>exact h
 ·rename_i hw
  simp only[hw,Bool.false_eq_true,if_false]
  exact h
 ·exact h.elim
theorem guardS_mono{ops:List Oper}{o:Oper}{s:DS}{K K':DS→Prop}(hk: ∀s,K s→K' s)(h:guardS P ops o s K):guardS P ops o s K':=by
 revert h
 simp only[guardS]
 split
 ·split
  ·exact fun h=>h.mono fun s' _=>hk s'
  ·exact hk _
 ·exact id
theorem run_ok{ops:List Oper}{hd:List Nat}{N:Nat}(hb:dstB ops N=true){K K1:DS→Prop}{fuel:Nat}: ∀(l:List Nat) (listed:Array Bool) (s:DS),runOk ops l listed=true→
  wk P (ops.map (·.dst)) (pickH ops hd l) s K1→(∀s,K1 s→AnyOk P ops N K fuel (afterA l listed) s)→(∀i∈l,(ops[i]?).isSome=true)→AnyOk P ops N K (l.length+fuel) listed s
 | [],listed,s,_,h,hk,_=>by
  have:=hk s (by simpa[pickH,wk]using h)
  simpa[afterA]using this
 | i::l,listed,s,hr,h,hk,hs=>by
  simp only[runOk,Bool.and_eq_true,beq_iff_eq]at hr
  have hi:=hs i (by simp)
  cases ho:ops[i]? with
  | none=>rw[ho]at hi;cases hi
  | some o=>
   simp only[pickH,ho]at h
   have hfu:(i::l).length+fuel=(l.length+fuel)+1:=by simp;omega
   rw[hfu]
   exact any_only hb hr.1 ho (guardS_mono (fun s' h'=>run_ok hb l _ s' hr.2 h' hk fun j hj=>hs j (by simp[hj])) (wk_guardS h))
theorem ready_some{ops:List Oper}{listed:Array Bool}{i:Nat}(h:i∈Region.ready .any ops.toArray listed):(ops[i]?).isSome=true:=by
 have h1:i<ops.toArray.size:=by
  unfold Region.ready at h
  have:=(List.mem_filter.1 h).1
  simpa using this
 simp at h1
 simp[h1]
theorem run_some{ops:List Oper}: ∀(l:List Nat) (listed:Array Bool),runOk ops l listed=true→∀i∈l,(ops[i]?).isSome=true
 | [],_,_=>by simp
 | i::l,listed,hr=>by
  simp only[runOk,Bool.and_eq_true,beq_iff_eq]at hr
  intro j hj
  rcases List.mem_cons.1 hj with rfl|hj
  ·exact ready_some (listed:=listed) (by rw[hr.1];simp)
  ·exact run_some l _ hr.2 j hj
end
end
end Go.Dl
namespace Go.Proofs.YtehdkccjaeckhaaGreatDoor
theorem cmpL_neg{a b:List Int}:cmpL a b<0↔a<b:=by
 unfold cmpL
 constructor
 ·intro h
  split at h
  ·assumption
  ·split at h<;>omega
 ·intro h
  rw[if_pos h];omega
theorem cmpL_pos{a b:List Int}:0<cmpL a b↔b<a:=by
 unfold cmpL
 constructor
 ·intro h
  split at h
  ·omega
  ·split at h
   ·assumption
   ·omega
 ·intro h
  rw[if_neg (List.lt_asymm h),if_pos h];omega
theorem cmpK_neg{k m:List (List Int)}:cmpK k m<0↔k<m:=by
 unfold cmpK
 constructor
 ·intro h
  split at h
  ·assumption
  ·split at h<;>omega
 ·intro h;rw[if_pos h];omega
theorem cmpK_pos{k m:List (List Int)}:0<cmpK k m↔m<k:=by
 unfold cmpK
 constructor
 ·intro h
  split at h
  ·omega
  ·split at h
   ·assumption
   ·omega
 ·intro h
  rw[if_neg (List.lt_asymm h),if_pos h];omega
theorem cmpK_zero{k m:List (List Int)}:cmpK k m=0↔k=m:=by
 unfold cmpK
 constructor
 ·intro h
  split at h
  ·omega
  ·split at h
   ·omega
   ·rename_i h1 h2
    exact List.le_antisymm (List.not_lt.1 h2) (List.not_lt.1 h1)
 ·rintro rfl
  rw[if_neg (List.lt_irrefl k),if_neg (List.lt_irrefl k)]
theorem backN_after{α:Type}(q:α→Bool)(l:List α): ∀n,n≤l.length→∀k,backN q l n≤k→k<n→∀x,l[k]? =some x→q x=true
 | 0,_,k,_,hk,_,_=>absurd hk (Nat.not_lt_zero _)
 | n+1,hn,k,h1,hk,x,hx=>by
  have e:l[n]? =some l[n]:=List.getElem?_eq_getElem (by omega)
  simp only[backN,e]at h1
  by_cases h:q l[n]=true
  ·rw[if_pos h]at h1
   by_cases hkn:k=n
   ·subst hkn;rw[e]at hx;injection hx with hx;rw[← hx];exact h
   ·exact backN_after q l n (by omega) k h1 (by omega) x hx
  ·rw[if_neg h]at h1;omega
theorem backN_last{α:Type}(q:α→Bool)(l:List α): ∀n,n≤l.length→∀k,backN q l n=k+1→∃x,l[k]? =some x∧q x=false
 | 0,_,k,h=>by simp[backN]at h
 | n+1,hn,k,h1=>by
  have e:l[n]? =some l[n]:=List.getElem?_eq_getElem (by omega)
  simp only[backN,e]at h1
  by_cases h:q l[n]=true
  ·rw[if_pos h]at h1;exact backN_last q l n (by omega) k h1
  ·rw[if_neg h]at h1
   have hk:k=n:=by omega
   subst hk
   exact⟨_,e,by simpa using h⟩
theorem putBack_sorted{α:Type}(le:α→α→Prop)(q:α→Bool)(l:List α)(x:α)(tr: ∀a b c,le a b→le b c→le a c)
  (h1: ∀y∈l,q y=true→le x y) (h2: ∀y∈l,q y=false→le y x) (hs:l.Pairwise le):(putBack q l x).Pairwise le:=by
 unfold putBack
 have hle:=backN_le q l l.length
 have hd: ∀y∈l.drop (backN q l l.length),le x y:=fun y hy=>by
  obtain⟨k,hk⟩:=List.getElem?_of_mem hy
  rw[List.getElem?_drop]at hk
  have hlt:backN q l l.length+k<l.length:=(List.getElem?_eq_some_iff.1 hk).1
  exact h1 y (List.mem_of_getElem? hk) (backN_after q l _ (Nat.le_refl _) _ (by omega) hlt y hk)
 have ht: ∀y∈l.take (backN q l l.length),le y x:=fun y hy=>by
  obtain⟨k,hk⟩:=List.getElem?_of_mem hy
  rw[List.getElem?_take]at hk
  split at hk
  ·rename_i hkb
   obtain⟨m,hm⟩: ∃m,backN q l l.length=m+1:=⟨backN q l l.length - 1,by omega⟩
   obtain⟨z,hz,hq⟩:=backN_last q l _ (Nat.le_refl _) m hm
   have hzx:=h2 z (List.mem_of_getElem? hz) hq
   by_cases e:k=m
   ·subst e;rw[hk]at hz;injection hz with hz;rw[hz];exact hzx
   ·refine tr _ _ _ ?_ hzx
    obtain⟨hkl,ek⟩:=List.getElem?_eq_some_iff.1 hk
    obtain⟨hml,em⟩:=List.getElem?_eq_some_iff.1 hz
    rw[← ek,← em]
    exact List.pairwise_iff_getElem.1 hs k m hkl hml (by omega)
  ·cases hk
 have hcut:(l.take (backN q l l.length)++l.drop (backN q l l.length)).Pairwise le:=by rw[List.take_append_drop];exact hs
 obtain⟨p1,p2,p3⟩:=List.pairwise_append.1 hcut
 refine List.pairwise_append.2 ⟨p1,List.pairwise_cons.2 ⟨hd,p2⟩,fun a ha b hb=>?_⟩
 rcases List.mem_cons.1 hb with rfl|hb
 ·exact ht a ha
 ·exact p3 a ha b hb
theorem lettersF_head(ls:List (List ByteArray))(s:ByteArray): ∀n p x a b all,(lettersF ls s n p (x::a) b all).1.head? =some x
 | 0,_,x,a,b,all=>rfl
 | n+1,p,x,a,b,all=>by
  simp only[lettersF]
  split
  ·rfl
  ·split
   ·exact lettersF_head ls s n _ x _ _ _
   ·exact lettersF_head ls s n _ x _ _ _
theorem byteAt_nonneg(s:ByteArray)(p:Nat):0≤byteAt s p:=by
 unfold byteAt
 cases s.data.toList[p]? with
 | none=>simp
 | some b=>simp only[Option.map_some,Option.getD_some];omega
theorem sect_key(ls:List (List ByteArray))(s:ByteArray):(match (lettersE ls s).1.head? with|some x=>if(ls.length:Int)≤x then -1 else x|none=> -1)=sectE ls s:=by
 unfold lettersE sectE
 by_cases h:s.size=0
 ·simp[h,lettersF]
 ·obtain⟨n,hn⟩: ∃n,s.size=n+1:=⟨s.size - 1,by omega⟩
  rw[if_neg h]
  have hx:s.extract 0 s.size=s:=by simp
  rw[hn]
  simp only[lettersF]
  rw[if_neg (by omega),hx]
  cases e:firstE ls s with
  | none=>
   simp only[List.nil_append]
   rw[lettersF_head]
   have:=byteAt_nonneg s 0
   simp only
   rw[if_pos (by omega)]
  | some x=>
   simp only[List.nil_append]
   rw[lettersF_head]
   have:=(firstE_ok ls s x e).1
   simp only
   rw[if_neg (by omega)]
theorem sect_mono(ls:List (List ByteArray))(s t:ByteArray)(h: ¬keyE ls t<keyE ls s)(hs:0≤sectE ls s)(ht:0≤sectE ls t):sectE ls s≤sectE ls t:=by
 have a:=sect_key ls s
 have b:=sect_key ls t
 unfold keyE at h
 rw[List.cons_lt_cons_iff]at h
 have h1: ¬(lettersE ls t).1<(lettersE ls s).1:=fun hh=>h (.inl hh)
 cases e1:(lettersE ls s).1 with
 | nil=>rw[e1]at a;simp only[List.head?_nil]at a;omega
 | cons x xs=>
  cases e2:(lettersE ls t).1 with
  | nil=>rw[e2]at b;simp only[List.head?_nil]at b;omega
  | cons y ys=>
   rw[e1]at a h1
   rw[e2]at b h1
   simp only[List.head?_cons]at a b
   rw[List.cons_lt_cons_iff]at h1
   have hxy: ¬y<x:=fun hh=>h1 (.inl hh)
   split at a
   ·omega
   ·split at b
    ·omega
    ·omega
end Go.Proofs.YtehdkccjaeckhaaGreatDoor
namespace Go.Proofs.YtehdkccjaeckhaaGreatDoor
open S (usort)
theorem le_trans'(d:Dic)(a b c:Ent)(h1:d.le a b)(h2:d.le b c):d.le a c:=by
 unfold Dic.le at*
 rcases h1 with h1|⟨h1,i1⟩
 ·rcases h2 with h2|⟨h2,i2⟩
  ·exact .inl (List.lt_trans h1 h2)
  ·exact .inl (h2▸h1)
 ·rcases h2 with h2|⟨h2,i2⟩
  ·exact .inl (h1▸h2)
  ·exact .inr ⟨h1.trans h2,by omega⟩
theorem before_le{d:Dic}{a b:Ent}(h:d.before a b=true):d.le a b:=by
 unfold Dic.before at h
 unfold Dic.le
 split at h
 ·exact .inl (cmpK_neg.1 (of_decide_eq_true h))
 ·rename_i hc
  exact .inr ⟨cmpK_zero.1 (by simpa[Dic.cmp]using hc),by have:a.id<b.id:=(by simpa using h);omega⟩
theorem not_before_le{d:Dic}{a b:Ent}(h:d.before a b=false):d.le b a:=by
 unfold Dic.before at h
 unfold Dic.le
 split at h
 ·rename_i hc
  have h1: ¬d.cmp a b<0:=by simpa using h
  exact .inl (cmpK_pos.1 (by have:d.cmp a b≠0:=hc;unfold Dic.cmp at *;omega))
 ·rename_i hc
  refine .inr ⟨(cmpK_zero.1 (by simpa[Dic.cmp]using hc)).symm,?_⟩
  have: ¬a.id<b.id:=by simpa using h
  omega
theorem ordL_sorted(d:Dic): ∀(l acc:List Ent),acc.Pairwise d.le→(d.ordL acc l).Pairwise d.le
 | [],_,h=>h
 | e::r,acc,h=>by
  simp only[Dic.ordL]
  exact ordL_sorted d r _ (putBack_sorted d.le _ acc e (le_trans' d) (fun y _ hy=>before_le hy) (fun y _ hy=>not_before_le hy) h)
theorem ord_sorted(d:Dic):d.ord.Pairwise d.le:=ordL_sorted d d.lex [] List.Pairwise.nil
theorem ord_ids{d:Dic}(hs:UpE d.lex):(d.ord.map (·.id)).Nodup:=by
 rw[((ord_perm d).map _).nodup_iff]
 refine List.Pairwise.map _ (fun a b h=>?_) hs
 omega
theorem ord_strict{d:Dic}(hs:UpE d.lex):d.ord.Pairwise fun a b=>keyE d.letters (d.sp a.form)<keyE d.letters (d.sp b.form)∨keyE d.letters (d.sp a.form)=keyE d.letters (d.sp b.form)∧a.id<b.id:=by
 have hn:=ord_ids hs
 have hn2:d.ord.Pairwise fun a b=>a.id≠b.id:=List.pairwise_map.1 hn
 refine((ord_sorted d).and hn2).imp fun {a b} h=>?_
 rcases h.1 with h1|⟨h1,h2⟩
 ·exact .inl h1
 ·exact .inr ⟨h1,by have:=h.2;omega⟩
-- nothing is empty that is joined
end Go.Proofs.YtehdkccjaeckhaaGreatDoor
namespace Go.Proofs.YtehdkccjaeckhaaGreatDoor
open Go.Dl
attribute [local irreducible] DW DCalls ECalls wk IW
def gI(a:Fst):Int:=match a with
 | some x=>(x.1:Int)
 | none=> -1
def gK(a:Fst):Int:=match a with
 | some x=>(x.2.1:Int)
 | none=> -1
theorem rLetters_D(nm:ByteArray)(us:List Unt)(lt:List (List ByteArray))(s:ByteArray)(hl:lt.length≤1000000)(hll: ∀l∈lt,l.length≤1000000)(hs:s.size≤1048576):
  DCalls Tryz.prog 60 [.agg (ortRow nm us lt),dv (ls s)] (.tup [dv (.sl 1 (ints (lettersE lt s).1)),dv (.sl 1 (ints (lettersE lt s).2.1)),dv (lb (lettersE lt s).2.2)]):=by
 have hmax:maxLen=9223372036854775807:=rfl
 refine kd (N:=85) (rs:= [.tmp 4,.tmp 5,.tmp 6]) Tryz.func60 ?_
 (repeat'(first|apply kA|apply kB|((first|refine kc (N:=85) ?_|refine kj (N:=85) kt36 ?_|apply kD|apply kE);simp +decide only[go_sem])|(apply kG;(simp +decide only[go_sem];rfl);all_goals(intro hcnd;try exact kz hcnd))|((first|apply kH|apply kI)<;>(intro hcnd;simp +decide only[go_sem,hcnd]))))
 refine dw_own 7 7 1 (by simp +decide only[go_sem]) ?_
 refine dw_own 8 8 1 (by simp +decide only[go_sem]) ?_
 refine dw_loop_fam (fun y:Nat×List Int×List Int×Bool=>kn 85 [(1,dv (ls s)),(2,.one (.bx 2 3 0 0)),(7,.one (.own 7 1 (ints y.2.1))),(8,.one (.own 8 1 (ints y.2.2.1))),(9,dv (lb y.2.2.2)),(10,dv (li y.1))] (ml [(2,[ortRow nm us lt])]))
  (fun y=>y.1≤s.size∧y.2.1.length≤y.1∧y.2.2.1.length≤y.1∧lettersE lt s=lettersF lt s (s.size - y.1) y.1 y.2.1 y.2.2.1 y.2.2.2) (fun y=>s.size - y.1) (0,[],[],true) (kM rfl (by simp +decide only[go_sem,List.map_nil,ortRow,List.length_cons,List.length_nil]) (by simp +decide only[go_sem,ortRow])) ⟨by simp,by simp,by simp,rfl⟩ ?_
 rintro⟨p,a,b,all⟩ ⟨h1,h2,h3,h4⟩
 simp only at h1 h2 h3 h4 ⊢
 have r1:((a.length+1)*8≤140737488355328)=True:=by simp;omega
 have r2:((b.length+1)*8≤140737488355328)=True:=by simp;omega
 by_cases ha:p<s.size
 ·have t1:decide ((p:Int)<(s.size:Int))=true:=by simp;omega
  have z0:(p≤s.size)=True:=by simp;omega
  have hok:=firstE_ok lt (s.extract p s.size)
  obtain⟨m,hm⟩: ∃m,s.size - p=m+1:=⟨s.size - p - 1,by omega⟩
  rw[hm,lettersF,if_neg (by omega)]at h4
  (repeat'(first|apply kA|apply kB|((first|refine kc (N:=85) ?_|refine kj (N:=85) kt36 ?_|apply kD|apply kE);simp +decide only[go_sem,t1,ortRow])|(apply kG;(simp +decide only[go_sem,t1,ortRow];rfl);all_goals(intro hcnd;try exact kz hcnd))|((first|apply kH|apply kI)<;>(intro hcnd;simp +decide only[go_sem,hcnd,t1,ortRow]))))
  refine dw_rng0 lt (fun i=>kn 85 [(1,dv (ls s)),(2,.one (.bx 2 3 0 0)),(7,.one (.own 7 1 (ints a))),(8,.one (.own 8 1 (ints b))),(9,dv (lb all)),(10,dv (li p)),(11,dv (li (gI (letL lt (s.extract p s.size) i)))),(12,dv (li (gK (letL lt (s.extract p s.size) i)))),(13,dv (li (fstSz (letL lt (s.extract p s.size) i)))),(23,dv (li lt.length)),(24,dv (li i))] (ml [(2,[ortRow nm us lt])])) (by omega) (kM rfl (by simp +decide only[go_sem,letL,gI,gK,fstSz,ortRow]) (by simp +decide only[go_sem,ortRow])) ?_ ?_
  ·intro i vs he hk hmm htk hlt hw
   have hvl:=hll vs hmm
   (repeat'(first|apply kA|apply kB|((first|refine kc (N:=85) ?_|refine kj (N:=85) kt36 ?_|apply kD|apply kE);simp +decide only[go_sem,hlt,hw,he,ortRow])|(apply kG;(simp +decide only[go_sem,hlt,hw,he,ortRow];rfl);all_goals(intro hcnd;try exact kz hcnd))|((first|apply kH|apply kI)<;>(intro hcnd;simp +decide only[go_sem,hcnd,hlt,hw,he,ortRow]))))
   refine dw_rng0 vs (fun k=>kn 85 [(1,dv (ls s)),(2,.one (.bx 2 3 0 0)),(7,.one (.own 7 1 (ints a))),(8,.one (.own 8 1 (ints b))),(9,dv (lb all)),(10,dv (li p)),(11,dv (li (gI (letV (s.extract p s.size) i vs (letL lt (s.extract p s.size) i) k)))),(12,dv (li (gK (letV (s.extract p s.size) i vs (letL lt (s.extract p s.size) i) k)))),(13,dv (li (fstSz (letV (s.extract p s.size) i vs (letL lt (s.extract p s.size) i) k)))),(14,dv (li i)),(23,dv (li lt.length)),(24,dv (li i)),(32,dv (li vs.length)),(33,dv (li k))] (ml [(2,[ortRow nm us lt])])) (by omega) (kM rfl (by simp +decide only[go_sem,letV]) (by simp +decide only[go_sem,ortRow])) ?_ ?_
   ·intro k v hs1 hmk hms htm hlt2 hw2
    have hsu:=letV_succ (s:=s.extract p s.size) (i:=i) (a:=letL lt (s.extract p s.size) i) hs1
    generalize letV (s.extract p s.size) i vs (letL lt (s.extract p s.size) i) k=d at hsu ⊢
    by_cases t2:fstSz d<v.size
    ·have h5:((fstSz d:Int)<(v.size:Int))=True:=by simp;omega
     have hp:=rBegins_D (s.extract p s.size) v (by rw[ext_size];omega)
     cases t3:begB (s.extract p s.size) v
     ·rw[t3]at hp
      rw[if_neg (by simp[t3])]at hsu
      (repeat'(first|apply kA|apply kB|((first|refine kc (N:=85) ?_|refine kj (N:=85) kt36 ?_|apply kD|apply kE|refine kx hp ?_|apply kF);simp +decide only[go_sem,hlt2,hw2,he,hs1,h5,z0,ortRow])|(apply kG;(simp +decide only[go_sem,hlt2,hw2,he,hs1,h5,z0,ortRow];rfl);all_goals(intro hcnd;try exact kz hcnd))|((first|apply kH|apply kI)<;>(intro hcnd;simp +decide only[go_sem,hcnd,hlt2,hw2,he,hs1,h5,z0,ortRow]))))
      exact kM rfl (by simp +decide only[go_sem,hsu]) (by simp +decide only[go_sem,ortRow])
     ·rw[t3]at hp
      rw[if_pos (by simp[t2,t3])]at hsu
      (repeat'(first|apply kA|apply kB|((first|refine kc (N:=85) ?_|refine kj (N:=85) kt36 ?_|apply kD|apply kE|refine kx hp ?_|apply kF);simp +decide only[go_sem,hlt2,hw2,he,hs1,h5,z0,ortRow])|(apply kG;(simp +decide only[go_sem,hlt2,hw2,he,hs1,h5,z0,ortRow];rfl);all_goals(intro hcnd;try exact kz hcnd))|((first|apply kH|apply kI)<;>(intro hcnd;simp +decide only[go_sem,hcnd,hlt2,hw2,he,hs1,h5,z0,ortRow]))))
      exact kM rfl (by simp +decide only[go_sem,hsu,gI,gK,fstSz]) (by simp +decide only[go_sem,ortRow])
    ·have h5:((fstSz d:Int)<(v.size:Int))=False:=by simp;omega
     rw[if_neg (by simp[t2])]at hsu
     (repeat'(first|apply kA|apply kB|((first|refine kc (N:=85) ?_|refine kj (N:=85) kt36 ?_|apply kD|apply kE|apply kF);simp +decide only[go_sem,hlt2,hw2,he,hs1,h5,z0,ortRow])|(apply kG;(simp +decide only[go_sem,hlt2,hw2,he,hs1,h5,z0,ortRow];rfl);all_goals(intro hcnd;try exact kz hcnd))|((first|apply kH|apply kI)<;>(intro hcnd;simp +decide only[go_sem,hcnd,hlt2,hw2,he,hs1,h5,z0,ortRow]))))
     exact kM rfl (by simp +decide only[go_sem,hsu]) (by simp +decide only[go_sem,ortRow])
   ·intro hlt2
    (repeat'(first|apply kA|apply kB|((first|refine kc (N:=85) ?_|refine kj (N:=85) kt36 ?_|apply kD|apply kE);simp +decide only[go_sem,hlt2,hw])|(apply kG;(simp +decide only[go_sem,hlt2,hw];rfl);all_goals(intro hcnd;try exact kz hcnd))|((first|apply kH|apply kI)<;>(intro hcnd;simp +decide only[go_sem,hcnd,hlt2,hw]))))
    exact kM rfl (by simp +decide only[go_sem,letL_succ he]) (by simp +decide only[go_sem,ortRow])
  ·intro hlt
   rw[← firstE]
   cases hf:firstE lt (s.extract p s.size)with
   | none=>
    rw[hf]at h4
    simp only at h4
    have hlp:p<s.data.toList.length:=by simpa using ha
    obtain⟨bt,hbt⟩: ∃bt,s.data.toList[p]? =some bt:=⟨_,List.getElem?_eq_getElem hlp⟩
    have hby:byteAt s p=(bt.toNat:Int):=by unfold byteAt;rw[hbt];rfl
    have h256:bt.toNat<256:=bt.toNat_lt
    have u0:IntKind.i64.wrap (bt.toNat:Int)=(bt.toNat:Int):=wrap_i64 (by omega) (by omega)
    have u1:IntKind.i64.wrap ((lt.length:Int)+(bt.toNat:Int))=(lt.length:Int)+(bt.toNat:Int):=wrap_i64 (by omega) (by omega)
    have u2:IntKind.i64.wrap ((p:Int)+1)=((p+1:Nat):Int):=wrap_succ p (by omega)
    (repeat'(first|apply kA|apply kB|((first|refine kc (N:=85) ?_|refine kj (N:=85) kt36 ?_|apply kD|apply kE);simp +decide only[go_sem,hlt,gI,gK,fstSz,ortRow,hbt,u0,u1,r1,r2,u2])|(apply kG;(simp +decide only[go_sem,hlt,gI,gK,fstSz,ortRow,hbt,u0,u1,r1,r2,u2];rfl);all_goals(intro hcnd;try exact kz hcnd))|((first|apply kH|apply kI)<;>(intro hcnd;simp +decide only[go_sem,hcnd,hlt,gI,gK,fstSz,ortRow,hbt,u0,u1,r1,r2,u2]))))
    refine⟨(p+1,a++ [(lt.length:Int)+byteAt s p],b++ [0],false),⟨by simp only;omega,by simp;omega,by simp;omega,?_⟩,by simp only;omega,kM rfl (by simp +decide only[go_sem,ints_snoc,hby,u0,u1,u2]) (by simp +decide only[go_sem,ortRow])⟩
    simp only
    rw[h4,show s.size - (p+1)=m by omega]
   | some x=>
    rw[hf]at h4
    simp only at h4
    obtain⟨x1,x2,x3,-⟩:=hok x hf
    have x4:x.2.2≤s.size - p:=by rw[ext_size]at x3;exact x3
    have u2:IntKind.i64.wrap ((p:Int)+(x.2.2:Int))=((p+x.2.2:Nat):Int):=by rw[wrap_i64 (by omega) (by omega)];rfl
    have t4:((x.1:Int)<0)=False:=by simp
    (repeat'(first|apply kA|apply kB|((first|refine kc (N:=85) ?_|refine kj (N:=85) kt36 ?_|apply kD|apply kE);simp +decide only[go_sem,hlt,gI,gK,fstSz,ortRow,r1,r2,u2,t4])|(apply kG;(simp +decide only[go_sem,hlt,gI,gK,fstSz,ortRow,r1,r2,u2,t4];rfl);all_goals(intro hcnd;try exact kz hcnd))|((first|apply kH|apply kI)<;>(intro hcnd;simp +decide only[go_sem,hcnd,hlt,gI,gK,fstSz,ortRow,r1,r2,u2,t4]))))
    refine⟨(p+x.2.2,a++ [(x.1:Int)],b++ [(x.2.1:Int)],all),⟨by simp only;omega,by simp;omega,by simp;omega,?_⟩,by simp only;omega,kM rfl (by simp +decide only[go_sem,ints_snoc,u2]) (by simp +decide only[go_sem,ortRow])⟩
    simp only
    rw[h4]
    exact lettersF_fuel lt s _ _ _ _ _ _ (by omega) (by omega)
 ·have t1:decide ((p:Int)<(s.size:Int))=false:=by simp;omega
  (repeat'(first|apply kA|apply kB|((first|refine kc (N:=85) ?_|refine kj (N:=85) kt36 ?_|apply kD|apply kE);simp +decide only[go_sem,t1])|(apply kG;(simp +decide only[go_sem,t1];rfl);all_goals(intro hcnd;try exact kz hcnd))|((first|apply kH|apply kI)<;>(intro hcnd;simp +decide only[go_sem,hcnd,t1]))))
  refine dw_slot 4 _ (DLe.own_ _ _ _) ?_
  refine dw_slot 5 _ (DLe.own_ _ _ _) ?_
  apply kF;simp +decide only[go_sem]
  have:s.size - p=0:=by omega
  rw[this,lettersF]at h4
  rw[h4]
theorem rOrder_D(a b:List Int)(ha:a.length≤1048576)(hb:b.length≤1048576):DCalls Tryz.prog 62 [dv (.sl 1 (ints a)),dv (.sl 1 (ints b))] (dv (li (cmpL a b))):=by
 have hmax:maxLen=9223372036854775807:=rfl
 refine kd (N:=46) (rs:= [.tmp 4]) Tryz.func62 ?_
 (repeat(first|apply kA|apply kB|((first|refine kc (N:=46) ?_|refine kj (N:=46) kt37 ?_|apply kD|apply kE);simp +decide only[go_sem])))
 refine dw_loop_fam (fun k:Nat=>kn 46 [(0,dv (.sl 1 (ints a))),(1,dv (.sl 1 (ints b))),(5,dv (li k))] noMem)
  (fun k=>k≤a.length∧k≤b.length∧cmpL a b=cmpL (a.drop k) (b.drop k)) (fun k=>a.length - k) 0 (kL rfl (by simp +decide only[go_sem]) (by simp[noMem])) ⟨by omega,by omega,rfl⟩ ?_
 rintro k ⟨h1,h2,h3⟩
 by_cases ka:k<a.length
 ·have t1:((k:Int)<(a.length:Int))=True:=by simp;omega
  by_cases kb:k<b.length
  ·have t2:((k:Int)<(b.length:Int))=True:=by simp;omega
   have ea:a[k]? =some a[k]:=List.getElem?_eq_getElem ka
   have eb:b[k]? =some b[k]:=List.getElem?_eq_getElem kb
   generalize a[k]=x at ea
   generalize b[k]=y at eb
   rw[drop_at2 ea,drop_at2 eb,cmpL_cons]at h3
   have fa:=ints_at2 ea
   have fb:=ints_at2 eb
   have u2:IntKind.i64.wrap ((k:Int)+1)=((k+1:Nat):Int):=wrap_succ k (by omega)
   by_cases g1:x<y
   ·rw[if_pos g1]at h3
    have v1:decide (x<y)=true:=by simpa using g1
    (repeat'(first|apply kA|apply kB|((first|refine kc (N:=46) ?_|refine kj (N:=46) kt37 ?_|apply kD|apply kE|apply kF);simp +decide only[go_sem,t1,t2,fa,fb,v1])|(apply kG;(simp +decide only[go_sem,t1,t2,fa,fb,v1];rfl);all_goals(intro hcnd;try exact kz hcnd))|((first|apply kH|apply kI)<;>(intro hcnd;simp +decide only[go_sem,hcnd,t1,t2,fa,fb,v1]))))
    rw[h3]
   ·rw[if_neg g1]at h3
    have v1:decide (x<y)=false:=by simpa using g1
    by_cases g2:y<x
    ·rw[if_pos g2]at h3
     have v2:decide (y<x)=true:=by simpa using g2
     (repeat'(first|apply kA|apply kB|((first|refine kc (N:=46) ?_|refine kj (N:=46) kt37 ?_|apply kD|apply kE|apply kF);simp +decide only[go_sem,t1,t2,fa,fb,v1,v2])|(apply kG;(simp +decide only[go_sem,t1,t2,fa,fb,v1,v2];rfl);all_goals(intro hcnd;try exact kz hcnd))|((first|apply kH|apply kI)<;>(intro hcnd;simp +decide only[go_sem,hcnd,t1,t2,fa,fb,v1,v2]))))
     rw[h3]
    ·rw[if_neg g2]at h3
     have v2:decide (y<x)=false:=by simpa using g2
     (repeat'(first|apply kA|apply kB|((first|refine kc (N:=46) ?_|refine kj (N:=46) kt37 ?_|apply kD|apply kE|apply kF);simp +decide only[go_sem,t1,t2,fa,fb,v1,v2,u2])|(apply kG;(simp +decide only[go_sem,t1,t2,fa,fb,v1,v2,u2];rfl);all_goals(intro hcnd;try exact kz hcnd))|((first|apply kH|apply kI)<;>(intro hcnd;simp +decide only[go_sem,hcnd,t1,t2,fa,fb,v1,v2,u2]))))
     exact⟨k+1,⟨by omega,by omega,h3⟩,by omega,kL rfl (by simp +decide only[go_sem,u2]) (by simp[noMem])⟩
  ·have t2:((k:Int)<(b.length:Int))=False:=by simp;omega
   have hk:k=b.length:=by omega
   subst hk
   rw[drop_at2 (List.getElem?_eq_getElem ka),List.drop_length,cmpL_cn]at h3
   have t3:((a.length:Int)<(b.length:Int))=False:=by simp;omega
   have t4:((b.length:Int)<(a.length:Int))=True:=by simp;omega
   (repeat'(first|apply kA|apply kB|((first|refine kc (N:=46) ?_|refine kj (N:=46) kt37 ?_|apply kD|apply kE|apply kF);simp +decide only[go_sem,t1,t2,t3,t4])|(apply kG;(simp +decide only[go_sem,t1,t2,t3,t4];rfl);all_goals(intro hcnd;try exact kz hcnd))|((first|apply kH|apply kI)<;>(intro hcnd;simp +decide only[go_sem,hcnd,t1,t2,t3,t4]))))
   rw[h3]
 ·have t1:((k:Int)<(a.length:Int))=False:=by simp;omega
  have hk:k=a.length:=by omega
  subst hk
  rw[List.drop_length]at h3
  by_cases kb:a.length<b.length
  ·rw[drop_at2 (List.getElem?_eq_getElem kb),cmpL_nc]at h3
   have t3:((a.length:Int)<(b.length:Int))=True:=by simp;omega
   (repeat'(first|apply kA|apply kB|((first|refine kc (N:=46) ?_|refine kj (N:=46) kt37 ?_|apply kD|apply kE|apply kF);simp +decide only[go_sem,t1,t3])|(apply kG;(simp +decide only[go_sem,t1,t3];rfl);all_goals(intro hcnd;try exact kz hcnd))|((first|apply kH|apply kI)<;>(intro hcnd;simp +decide only[go_sem,hcnd,t1,t3]))))
   rw[h3]
  ·have e:a.length=b.length:=by omega
   rw[e,List.drop_length,cmpL_nil]at h3
   have t3:((a.length:Int)<(b.length:Int))=False:=by simp;omega
   have t4:((b.length:Int)<(a.length:Int))=False:=by simp;omega
   (repeat'(first|apply kA|apply kB|((first|refine kc (N:=46) ?_|refine kj (N:=46) kt37 ?_|apply kD|apply kE|apply kF);simp +decide only[go_sem,t1,t3,t4])|(apply kG;(simp +decide only[go_sem,t1,t3,t4];rfl);all_goals(intro hcnd;try exact kz hcnd))|((first|apply kH|apply kI)<;>(intro hcnd;simp +decide only[go_sem,hcnd,t1,t3,t4]))))
   rw[h3]
theorem rSection_D(nm:ByteArray)(us:List Unt)(lt:List (List ByteArray))(s:ByteArray)(hl:lt.length≤1000000)(hll: ∀l∈lt,l.length≤1000000)(hs:s.size≤1048576):
  DCalls Tryz.prog 29 [.agg (ortRow nm us lt),dv (ls s)] (dv (li (sectE lt s))):=by
 have hmax:maxLen=9223372036854775807:=rfl
 have hF:=rLetters_D nm us lt s hl hll hs
 have hk:=sect_key lt s
 generalize lettersE lt s=r at hF hk
 obtain⟨a,b,all⟩:=r
 simp only at hF hk
 cases a with
 | nil=>
  simp only[List.head?_nil]at hk
  refine kd (N:=30) (rs:= [.tmp 4]) Tryz.func29 ?_
  (repeat'(first|apply kA|apply kB|((first|refine kc (N:=30) ?_|refine kj (N:=30) kt48 ?_|apply kD|apply kE|refine kx hF ?_|apply kF);simp +decide only[go_sem,ortRow])|(apply kG;(simp +decide only[go_sem,ortRow];rfl);all_goals(intro hcnd;try exact kz hcnd))|((first|apply kH|apply kI)<;>(intro hcnd;simp +decide only[go_sem,hcnd,ortRow]))))
  rw[← hk]
 | cons x a=>
  simp only[List.head?_cons]at hk
  have t0:((((a.length+1:Nat)):Int)==0)=false:=by rw[beq_eq_false_iff_ne];omega
  by_cases g:(lt.length:Int)≤x
  ·rw[if_pos g]at hk
   have t1:((lt.length:Int)≤x)=True:=by simpa using g
   refine kd (N:=30) (rs:= [.tmp 4]) Tryz.func29 ?_
   (repeat'(first|apply kA|apply kB|((first|refine kc (N:=30) ?_|refine kj (N:=30) kt48 ?_|apply kD|apply kE|refine kx hF ?_|apply kF);simp +decide only[go_sem,ortRow,t0,t1,ints,List.map_cons])|(apply kG;(simp +decide only[go_sem,ortRow,t0,t1,ints,List.map_cons];rfl);all_goals(intro hcnd;try exact kz hcnd))|((first|apply kH|apply kI)<;>(intro hcnd;simp +decide only[go_sem,hcnd,ortRow,t0,t1,ints,List.map_cons]))))
   rw[← hk]
  ·rw[if_neg g]at hk
   have t1:((lt.length:Int)≤x)=False:=by simpa using g
   refine kd (N:=30) (rs:= [.tmp 4]) Tryz.func29 ?_
   (repeat'(first|apply kA|apply kB|((first|refine kc (N:=30) ?_|refine kj (N:=30) kt48 ?_|apply kD|apply kE|refine kx hF ?_|apply kF);simp +decide only[go_sem,ortRow,t0,t1,ints,List.map_cons])|(apply kG;(simp +decide only[go_sem,ortRow,t0,t1,ints,List.map_cons];rfl);all_goals(intro hcnd;try exact kz hcnd))|((first|apply kH|apply kI)<;>(intro hcnd;simp +decide only[go_sem,hcnd,ortRow,t0,t1,ints,List.map_cons]))))
   rw[← hk]
theorem strLt_lst(a b:ByteArray):strLt a b=true↔a.data.toList<b.data.toList:=by
 unfold strLt;rw[bytesLess_eq,ByteArray.toList_eq,ByteArray.toList_eq];simp
theorem map_lt: ∀a b:List UInt8,(a.map fun b=>(b.toNat:Int))<(b.map fun b=>(b.toNat:Int))↔a<b
 | [],[]=>by simp
 | [],y::b=>by simp
 | x::a,[]=>by simp
 | x::a,y::b=>by
  rw[List.map_cons,List.map_cons,List.cons_lt_cons_iff,List.cons_lt_cons_iff,map_lt a b,UInt8.lt_iff_toNat_lt,← UInt8.toNat_inj]
  constructor<;>rintro(h|⟨h,h2⟩)<;>first|exact .inl (by omega)|exact .inr ⟨by omega,h2⟩
theorem byteL_inj{a b:ByteArray}(h:byteL a=byteL b):a=b:=by
 have h2:a.data.toList=b.data.toList:=by
  refine List.map_inj_right (f:=fun b:UInt8=>(b.toNat:Int)) (fun x y h=>?_) |>.1 h
  exact UInt8.toNat_inj.1 (by omega)
 cases a;cases b
 simpa using h2
theorem strLt_byteL(a b:ByteArray):strLt a b=decide (byteL a<byteL b):=by
 have h:=(strLt_lst a b).trans (map_lt a.data.toList b.data.toList).symm
 unfold byteL
 cases e:strLt a b
 ·symm;rw[decide_eq_false_iff_not];intro hh;rw[h.2 hh]at e;cases e
 ·symm;rw[decide_eq_true_iff];exact h.1 e
theorem rCompare_D(nm:ByteArray)(us:List Unt)(lt:List (List ByteArray))(s t:ByteArray)(hl:lt.length≤1000000)(hll: ∀l∈lt,l.length≤1000000)(hs:s.size≤1048576)(ht:t.size≤1048576):
  DCalls Tryz.prog 32 [.agg (ortRow nm us lt),dv (ls s),dv (ls t)] (dv (li (cmpK (keyE lt s) (keyE lt t)))):=by
 have hmax:maxLen=9223372036854775807:=rfl
 have hA:=rLetters_D nm us lt s hl hll hs
 have hB:=rLetters_D nm us lt t hl hll ht
 have la:=letters_len lt s
 have lb':=letters_len lt t
 have e:=or3_key (lettersE lt s).1 (lettersE lt s).2.1 (byteL s) (lettersE lt t).1 (lettersE lt t).2.1 (byteL t)
 rw[keyE,keyE]
 change _=cmpK [(lettersE lt s).1,(lettersE lt s).2.1,byteL s] [(lettersE lt t).1,(lettersE lt t).2.1,byteL t]at e
 change DCalls _ _ _ (dv (li (cmpK [(lettersE lt s).1,(lettersE lt s).2.1,byteL s] [(lettersE lt t).1,(lettersE lt t).2.1,byteL t])))
 rw[← e]
 clear e
 generalize lettersE lt s=r at hA la
 generalize lettersE lt t=q at hB lb'
 obtain⟨a,b,aa⟩:=r
 obtain⟨c,d,bb⟩:=q
 simp only at hA hB la lb' ⊢
 have h1:=rOrder_D a c (by omega) (by omega)
 have h2:=rOrder_D b d (by omega) (by omega)
 unfold or3
 rcases Bool.eq_false_or_eq_true (cmpL a c !=0)with t1|t1
 ·rw[if_pos (by simpa using t1)]
  refine kd (N:=47) (rs:= [.tmp 6]) Tryz.func32 ?_
  (repeat'(first|apply kA|apply kB|((first|refine kc (N:=47) ?_|apply kD|apply kE|refine kx hA ?_|refine kx hB ?_|refine kx h1 ?_|apply kF);simp +decide only[go_sem,ortRow,t1])|(apply kG;(simp +decide only[go_sem,ortRow,t1];rfl);all_goals(intro hcnd;try exact kz hcnd))))
 ·rw[if_neg (by simpa using t1)]
  rcases Bool.eq_false_or_eq_true (cmpL b d !=0)with t2|t2
  ·rw[if_pos (by simpa using t2)]
   refine kd (N:=47) (rs:= [.tmp 6]) Tryz.func32 ?_
   (repeat'(first|apply kA|apply kB|((first|refine kc (N:=47) ?_|apply kD|apply kE|refine kx hA ?_|refine kx hB ?_|refine kx h1 ?_|refine kx h2 ?_|apply kF);simp +decide only[go_sem,ortRow,t1,t2])|(apply kG;(simp +decide only[go_sem,ortRow,t1,t2];rfl);all_goals(intro hcnd;try exact kz hcnd))))
  ·rw[if_neg (by simpa using t2)]
   have x1:=strLt_byteL s t
   have x2:=strLt_byteL t s
   by_cases g1:byteL s<byteL t
   ·rw[decide_eq_true g1]at x1
    refine kd (N:=47) (rs:= [.tmp 6]) Tryz.func32 ?_
    (repeat'(first|apply kA|apply kB|((first|refine kc (N:=47) ?_|apply kD|apply kE|refine kx hA ?_|refine kx hB ?_|refine kx h1 ?_|refine kx h2 ?_|apply kF);simp +decide only[go_sem,ortRow,t1,t2,x1])|(apply kG;(simp +decide only[go_sem,ortRow,t1,t2,x1];rfl);all_goals(intro hcnd;try exact kz hcnd))))
    rw[cmpL,if_pos g1]
   ·rw[decide_eq_false g1]at x1
    by_cases g2:byteL t<byteL s
    ·rw[decide_eq_true g2]at x2
     have x3:(s==t)=false:=bytes_ne fun h=>by subst h;exact List.lt_irrefl _ g2
     refine kd (N:=47) (rs:= [.tmp 6]) Tryz.func32 ?_
     (repeat'(first|apply kA|apply kB|((first|refine kc (N:=47) ?_|apply kD|apply kE|refine kx hA ?_|refine kx hB ?_|refine kx h1 ?_|refine kx h2 ?_|apply kF);simp +decide only[go_sem,ortRow,t1,t2,x1,x2,x3])|(apply kG;(simp +decide only[go_sem,ortRow,t1,t2,x1,x2,x3];rfl);all_goals(intro hcnd;try exact kz hcnd))))
     rw[cmpL,if_neg g1,if_pos g2]
    ·rw[decide_eq_false g2]at x2
     have x3:(s==t)=true:=(bytes_eq s t).2 (byteL_inj (List.le_antisymm (List.not_lt.1 g2) (List.not_lt.1 g1)))
     refine kd (N:=47) (rs:= [.tmp 6]) Tryz.func32 ?_
     (repeat'(first|apply kA|apply kB|((first|refine kc (N:=47) ?_|apply kD|apply kE|refine kx hA ?_|refine kx hB ?_|refine kx h1 ?_|refine kx h2 ?_|apply kF);simp +decide only[go_sem,ortRow,t1,t2,x1,x2,x3])|(apply kG;(simp +decide only[go_sem,ortRow,t1,t2,x1,x2,x3];rfl);all_goals(intro hcnd;try exact kz hcnd))))
     rw[cmpL,if_neg g1,if_neg g2]
end Go.Proofs.YtehdkccjaeckhaaGreatDoor
namespace Go.Dl
open Go.RowKit
noncomputable section
def PR.len:PR→Nat
 | .leaf=>0
 | .run l t=>l.length+t.len
 | .bl _ t=>1+t.len
 | .ex _ t=>1+t.len
 | .dia _ _ t=>2+t.len
 | .here _ t=>t.len
 | .two _ t _ _=>1+t.len
 | .thr _ t _ _ _ _=>1+t.len
def isExtract(o:Option Oper):Bool:=match o with
 | some o=>match o.op with
  | .extract _ _=>true
  | _=>false
 | none=>false
def apartAt(ops:List Oper)(i j:Nat):Bool:=match ops[i]?,ops[j]? with
 | some oi,some oj=>oi.apart ops.toArray oj
 | _,_=>false
def PR.ok(ops:List Oper):PR→Array Bool→Bool
 | .leaf,listed=>(Region.ready .any ops.toArray listed).isEmpty
 | .run l t,listed=>runOk ops l listed&&t.ok ops (afterA l listed)
 | .bl i t,listed=>Region.free .any ops.toArray listed i&&(Region.ready .any ops.toArray listed).contains i&&(ops[i]?).isSome&&t.ok ops (listed.setIfInBounds i true)
 | .ex i t,listed=>Region.free .any ops.toArray listed i&&(Region.ready .any ops.toArray listed).contains i&&isExtract ops[i]? &&t.ok ops (listed.setIfInBounds i true)
 | .dia i j t,listed=>(Region.ready .any ops.toArray listed== [i,j])&&(Region.ready .any ops.toArray (listed.setIfInBounds i true)== [j])&&(Region.ready .any ops.toArray (listed.setIfInBounds j true)== [i])&&apartAt ops i j&&(i !=j)&&t.ok ops ((listed.setIfInBounds i true).setIfInBounds j true)
 | .here a t,listed=>(listed==a)&&t.ok ops a
 | .two i t j u,listed=>(Region.ready .any ops.toArray listed== [i,j])&&(ops[i]?).isSome&&(ops[j]?).isSome&&(t.len==u.len)&&t.ok ops (listed.setIfInBounds i true)&&u.ok ops (listed.setIfInBounds j true)
 | .thr i t j u k v,listed=>(Region.ready .any ops.toArray listed== [i,j,k])&&(ops[i]?).isSome&&(ops[j]?).isSome&&(ops[k]?).isSome&&(t.len==u.len)&&(t.len==v.len)&&t.ok ops (listed.setIfInBounds i true)&&u.ok ops (listed.setIfInBounds j true)&&v.ok ops (listed.setIfInBounds k true)
section
variable {P : Program}
theorem blind_extract{s:DS}{o:Oper}{x:Operand}{i:Nat}{ds:List D}{d:D}(ho:o.op= .extract x i)(hx:s.ev x= .tup ds)(hi:ds[i]? =some d):Blind P s o d:=fun X E a w hE=>by
 have hv:=hE.ev x
 rw[hx]at hv
 generalize he:a.eval x=v at hv
 cases hv with
 | tup _ vs hl hr=>
  have hlt:i<vs.size:=by rw[hl];exact(List.getElem?_eq_some_iff.1 hi).1
  exact⟨vs[i],fun w'=>by simp[execOp,ho,he,Instr.extract,hlt],hr i d _ hi (Array.getElem?_eq_getElem hlt)⟩
theorem extract_blind{s:DS}{o:Oper}{d:D}(h:isExtract (some o)=true)(hq:QD P s.ev s.bx o.op (· =d)):Blind P s o d:=by
 obtain⟨dst,op,ty,pos,aft,g⟩:=o
 cases op with
 | extract x i=>
  simp only[QD]at hq
  split at hq
  ·rename_i ds hx
   split at hq
   ·rename_i d' hd
    subst hq
    exact blind_extract rfl hx hd
   ·exact hq.elim
  ·exact hq.elim
 | _=>simp[isExtract]at h
theorem wk_AL{ops:List Oper}{o:Oper}{l:List (Mode×Oper)}{s:DS}{K:DS→Prop}(h:wk P (ops.map (·.dst)) ((.light,o)::l) s K):AL P ops o s fun s'=>wk P (ops.map (·.dst)) l s' K:=by
 have h:=wk_cons h
 unfold GIs at h
 unfold AL
 split at h
 ·rename_i hw
  simp only[hw]
  cases h with
  | light d hq hk=>exact⟨d,hq,hk⟩
 ·rename_i hw
  simp only[hw]
  exact h
 ·exact h.elim
theorem pr_ok{ops:List Oper}{hd:List Nat}{N:Nat}(hb:dstB ops N=true)(hs:Region.noSelect ops.toArray=true){K:DS→Prop}: ∀(t:PR) (listed:Array Bool) (s:DS),t.ok ops listed=true→t.wk P ops hd (ops.map (·.dst)) s K→AnyOk P ops N K t.len listed s
 | .leaf,listed,s,hc,h=>any_done (by simpa[PR.ok]using hc) h
 | .run l t,listed,s,hc,h=>by
  simp only[PR.ok,Bool.and_eq_true]at hc
  exact run_ok hb l listed s hc.1 h (fun s' h'=>pr_ok hb hs t _ s' hc.2 h') (run_some l listed hc.1)
 | .bl i t,listed,s,hc,h=>by
  simp only[PR.ok,Bool.and_eq_true]at hc
  obtain⟨⟨⟨h1,h2⟩,h3⟩,h4⟩:=hc
  have hl:(PR.bl i t).len=t.len+1:=by simp[PR.len];omega
  rw[hl]
  cases ho:ops[i]? with
  | none=>rw[ho]at h3;cases h3
  | some o=>
   simp only[PR.wk,pickM,ho]at h
   have h7:=wk_cons h
   unfold GIs at h7
   split at h7
   ·rename_i hw
    cases h7 with
    | blind d hbl hk=>exact any_blind hb ho hs h1 h2 hw hbl (pr_ok hb hs t _ _ h4 hk)
   ·rename_i hw
    exact any_not hb ho hs h1 h2 hw (pr_ok hb hs t _ _ h4 h7)
   ·exact h7.elim
 | .ex i t,listed,s,hc,h=>by
  simp only[PR.ok,Bool.and_eq_true]at hc
  obtain⟨⟨⟨h1,h2⟩,h3⟩,h4⟩:=hc
  have hl:(PR.ex i t).len=t.len+1:=by simp[PR.len];omega
  rw[hl]
  cases ho:ops[i]? with
  | none=>rw[ho]at h3;cases h3
  | some o=>
   rw[ho]at h3
   simp only[PR.wk,pickM,ho]at h
   have h7:=wk_cons h
   unfold GIs at h7
   split at h7
   ·rename_i hw
    cases h7 with
    | light d hq hk=>exact any_blind hb ho hs h1 h2 hw (extract_blind h3 hq) (pr_ok hb hs t _ _ h4 hk)
   ·rename_i hw
    exact any_not hb ho hs h1 h2 hw (pr_ok hb hs t _ _ h4 h7)
   ·exact h7.elim
 | .here a t,listed,s,hc,h=>by
  simp only[PR.ok,Bool.and_eq_true,beq_iff_eq]at hc
  obtain⟨rfl,h2⟩:=hc
  exact pr_ok hb hs t _ s h2 h
 | .dia i j t,listed,s,hc,h=>by
  simp only[PR.ok,Bool.and_eq_true,beq_iff_eq,bne_iff_ne]at hc
  obtain⟨⟨⟨⟨⟨h1,h2⟩,h3⟩,h4⟩,hne⟩,h5⟩:=hc
  have hl:(PR.dia i j t).len=(t.len+1)+1:=by simp[PR.len];omega
  rw[hl]
  unfold apartAt at h4
  split at h4
  ·rename_i oi oj hi hj
   simp only[PR.wk,pickM,hi,hj]at h
   have g1:AL P ops oi s fun s1=>AL P ops oj s1 fun s2=>AnyOk P ops N K t.len ((listed.setIfInBounds i true).setIfInBounds j true) s2:=AL_mono (fun s1 q1=>AL_mono (fun s2 q2=>pr_ok hb hs t _ s2 h5 q2) (wk_AL q1)) (wk_AL h)
   have g2:=diamond h4 g1
   refine any_each hb h1 (by simp) fun k hk=>?_
   have hk':k=i∨k=j:=by simpa using hk
   rcases hk' with rfl|rfl
   ·exact⟨oi,hi,AL_guard (AL_mono (fun s1 q1=>any_each hb h2 (by simp) fun q hq=>by
     obtain rfl:q=j:=by simpa using hq
     exact⟨oj,hj,AL_guard q1⟩) g1)⟩
   ·refine⟨oj,hj,AL_guard (AL_mono (fun s1 q1=>any_each hb h3 (by simp) fun q hq=>?_) g2)⟩
    obtain rfl:q=i:=by simpa using hq
    rw[Array.setIfInBounds_comm _ _ hne]at q1
    exact⟨oi,hi,AL_guard q1⟩
  ·cases h4
 | .two i t j u,listed,s,hc,h=>by
  simp only[PR.ok,Bool.and_eq_true,beq_iff_eq]at hc
  obtain⟨⟨⟨⟨⟨h1,h2⟩,h3⟩,h4⟩,h5⟩,h6⟩:=hc
  have hl:(PR.two i t j u).len=t.len+1:=by simp[PR.len];omega
  rw[hl]
  refine any_each hb h1 (by simp) fun k hk=>?_
  have hk':k=i∨k=j:=by simpa using hk
  rcases hk' with rfl|rfl
  ·cases ho:ops[k]? with
   | none=>rw[ho]at h2;cases h2
   | some o=>
    have h7:=h.1
    simp only[pickH,ho]at h7
    exact⟨o,rfl,guardS_mono (fun s' h'=>pr_ok hb hs t _ s' h5 h') (wk_guardS h7)⟩
  ·cases ho:ops[k]? with
   | none=>rw[ho]at h3;cases h3
   | some o=>
    have h7:=h.2
    simp only[pickH,ho]at h7
    refine⟨o,rfl,guardS_mono (fun s' h'=>?_) (wk_guardS h7)⟩
    rw[h4]
    exact pr_ok hb hs u _ s' h6 h'
 | .thr i t j u k v,listed,s,hc,h=>by
  simp only[PR.ok,Bool.and_eq_true,beq_iff_eq]at hc
  obtain⟨⟨⟨⟨⟨⟨⟨⟨h1,h2⟩,h3⟩,h3'⟩,h4⟩,h4'⟩,h5⟩,h6⟩,h6'⟩:=hc
  have hl:(PR.thr i t j u k v).len=t.len+1:=by simp[PR.len];omega
  rw[hl]
  refine any_each hb h1 (by simp) fun q hq=>?_
  have hq':q=i∨q=j∨q=k:=by simpa using hq
  rcases hq' with rfl|rfl|rfl
  ·cases ho:ops[q]? with
   | none=>rw[ho]at h2;cases h2
   | some o=>
    have h7:=h.1
    simp only[pickH,ho]at h7
    exact⟨o,rfl,guardS_mono (fun s' h'=>pr_ok hb hs t _ s' h5 h') (wk_guardS h7)⟩
  ·cases ho:ops[q]? with
   | none=>rw[ho]at h3;cases h3
   | some o=>
    have h7:=h.2.1
    simp only[pickH,ho]at h7
    refine⟨o,rfl,guardS_mono (fun s' h'=>?_) (wk_guardS h7)⟩
    rw[h4]
    exact pr_ok hb hs u _ s' h6 h'
  ·cases ho:ops[q]? with
   | none=>rw[ho]at h3';cases h3'
   | some o=>
    have h7:=h.2.2
    simp only[pickH,ho]at h7
    refine⟨o,rfl,guardS_mono (fun s' h'=>?_) (wk_guardS h7)⟩
    rw[h4']
    exact pr_ok hb hs v _ s' h6' h'
def checkPR(ops:List Oper)(N:Nat)(t:PR):Bool:=
 dstB ops N&&Region.noSelect ops.toArray&&t.ok ops (Array.replicate ops.length false)&&(t.len==ops.length)
theorem dw_treeR{id:Nat}{l:List Oper}{s:DS}{Q:Exit→DS→Prop}{N:Nat}(hd:List Nat)(t:PR)(hm:P.follows .mixedOrders=true)(hn:s.n=N)(hc:checkPR l N t=true)
  (h:t.wk P l hd (l.map (·.dst)) s (Q .normal)):DW P (.region id l.toArray true) s Q:=by
 simp only[checkPR,Bool.and_eq_true,beq_iff_eq]at hc
 obtain⟨⟨⟨h1,h2⟩,h3⟩,h4⟩:=hc
 subst hn
 refine dw_any h1 hm ?_
 have:=pr_ok h1 h2 t _ s h3 h
 rwa [h4]at this
end
end
end Go.Dl
namespace Go.Dl
open Go.RowKit
noncomputable section
def edgesOf(o:Oper):List Nat:=(o.after.toList.filter fun e=>Region.binds .any e).map (·.on)
def readyG(m:Nat):List (List Nat)→Nat→List Nat
 | [],_=> []
 | l::r,i=>if(!m.testBit i&&l.all fun k=>m.testBit k)=true then i::readyG m r (i+1)else readyG m r (i+1)
def readyM(E:List (List Nat))(m:Nat):List Nat:=readyG m E 0
def arrOf(n m:Nat):Array Bool:=((List.range n).map fun i=>m.testBit i).toArray
theorem arrOf_get{n m i:Nat}(d:Bool)(h:i<n):(arrOf n m).getD i d=m.testBit i:=by
 simp[arrOf,Array.getD,h]
theorem arrOf_set{n m i:Nat}(h:i<n):(arrOf n m).setIfInBounds i true=arrOf n (m ||| 2 ^ i):=by
 apply Array.ext
 ·simp[arrOf]
 ·intro j h1 h2
  have hj:j<n:=by simpa[arrOf]using h2
  rw[Array.getElem_setIfInBounds (by simpa[arrOf]using hj)]
  by_cases hij:i=j
  ·subst hij;simp[arrOf,Nat.testBit_or,Nat.testBit_two_pow]
  ·simp[arrOf,Nat.testBit_or,Nat.testBit_two_pow,hij]
theorem arrOf_zero(n:Nat):Array.replicate n false=arrOf n 0:=by
 apply Array.ext
 ·simp[arrOf]
 ·intro j h1 h2
  simp[arrOf]
theorem ready_mask{ops:List Oper}{E:List (List Nat)}(hE:ops.map edgesOf=E)(hn:E.all (fun l=>l.all fun k=>decide (k<ops.length))=true)(m:Nat):Region.ready .any ops.toArray (arrOf ops.length m)=readyM E m:=by
 subst hE
 have key: ∀(suf:List Oper) (k:Nat),(∀(i:Nat) o,suf[i]? =some o→ops[k+i]? =some o)→k+suf.length=ops.length→
   ((List.range' k suf.length).filter fun i=> !(arrOf ops.length m).getD i true&&((ops.toArray[i]?).map fun o:Oper=>o.after.all fun e=> !Region.binds .any e||(arrOf ops.length m).getD e.on false).getD false)=readyG m (suf.map edgesOf) k:=by
  intro suf
  induction suf with
  | nil=>intro k _ _;rfl
  | cons o suf ih=>
   intro k hs hl
   have hk:k<ops.length:=by simp at hl;omega
   have ho:ops[k]? =some o:=hs 0 o rfl
   have hb:(o.after.all fun e=> !Region.binds .any e||(arrOf ops.length m).getD e.on false)=(edgesOf o).all fun k=>m.testBit k:=by
    have h1:(edgesOf o).all (fun k=>decide (k<ops.length))=true:=by
     rw[List.all_eq_true]at hn
     exact hn _ (List.mem_map.2 ⟨o,List.mem_of_getElem? ho,rfl⟩)
    unfold edgesOf at h1 ⊢
    rw[← Array.all_toList]
    generalize o.after.toList=l at h1 ⊢
    induction l with
    | nil=>rfl
    | cons e l ih2=>
     cases hbe:Region.binds .any e
     ·simp only[List.filter_cons,hbe,Bool.false_eq_true,if_false,List.all_cons,Bool.not_false,Bool.true_or,Bool.true_and]at h1 ⊢
      exact ih2 h1
     ·simp only[List.filter_cons,hbe,if_true,List.map_cons,List.all_cons,Bool.and_eq_true,decide_eq_true_eq,Bool.not_true,Bool.false_or]at h1 ⊢
      rw[arrOf_get _ h1.1,ih2 h1.2]
   rw[List.length_cons,List.range'_succ,List.filter_cons,List.map_cons,readyG]
   have ih':=ih (k+1) (fun i o' h=>by rw[Nat.add_assoc,Nat.add_comm 1 i];exact hs (i+1) o' (by simpa using h)) (by simp at hl;omega)
   simp only[List.getElem?_toArray]at ih' ⊢
   rw[ih',arrOf_get _ hk,ho]
   simp only[Option.map_some,Option.getD_some,hb]
 have h:=key ops 0 (fun i o h=>by simpa using h) (by simp)
 unfold Region.ready readyM
 rw[← h]
 simp only[List.size_toArray,List.range_eq_range']
def runM(E:List (List Nat)):List Nat→Nat→Bool
 | [],_=>true
 | i::l,m=>(readyM E m== [i])&&runM E l (m ||| 2 ^ i)
def afterM:List Nat→Nat→Nat
 | [],m=>m
 | i::l,m=>afterM l (m ||| 2 ^ i)
def ltB(n:Nat)(l:List Nat):Bool:=l.all fun i=>decide (i<n)
def PR.okM(ops:List Oper)(E:List (List Nat)):PR→Nat→Bool
 | .leaf,m=>(readyM E m).isEmpty
 | .run l t,m=>ltB ops.length l&&(runM E l m&&t.okM ops E (afterM l m))
 | .bl i t,m=>decide (i<ops.length)&&(Region.free .any ops.toArray (arrOf ops.length m) i&&(readyM E m).contains i&&(ops[i]?).isSome&&t.okM ops E (m ||| 2 ^ i))
 | .ex i t,m=>decide (i<ops.length)&&(Region.free .any ops.toArray (arrOf ops.length m) i&&(readyM E m).contains i&&isExtract ops[i]? &&t.okM ops E (m ||| 2 ^ i))
 | .dia i j t,m=>decide (i<ops.length)&&decide (j<ops.length)&&((readyM E m== [i,j])&&(readyM E (m ||| 2 ^ i)== [j])&&(readyM E (m ||| 2 ^ j)== [i])&&apartAt ops i j&&(i !=j)&&t.okM ops E ((m ||| 2 ^ i) ||| 2 ^ j))
 | .here a t,m=>(arrOf ops.length m==a)&&t.okM ops E m
 | .two i t j u,m=>decide (i<ops.length)&&decide (j<ops.length)&&((readyM E m== [i,j])&&(ops[i]?).isSome&&(ops[j]?).isSome&&(t.len==u.len)&&t.okM ops E (m ||| 2 ^ i)&&u.okM ops E (m ||| 2 ^ j))
 | .thr i t j u k v,m=>decide (i<ops.length)&&decide (j<ops.length)&&decide (k<ops.length)&&((readyM E m== [i,j,k])&&(ops[i]?).isSome&&(ops[j]?).isSome&&(ops[k]?).isSome&&(t.len==u.len)&&(t.len==v.len)&&t.okM ops E (m ||| 2 ^ i)&&u.okM ops E (m ||| 2 ^ j)&&v.okM ops E (m ||| 2 ^ k))
theorem run_mask{ops:List Oper}{E:List (List Nat)}(hE:ops.map edgesOf=E)(hn:E.all (fun l=>l.all fun k=>decide (k<ops.length))=true): ∀(l:List Nat) (m:Nat),ltB ops.length l=true→runM E l m=true→runOk ops l (arrOf ops.length m)=true∧afterA l (arrOf ops.length m)=arrOf ops.length (afterM l m)
 | [],m,_,_=>⟨rfl,rfl⟩
 | i::l,m,hl,h=>by
  simp only[ltB,List.all_cons,Bool.and_eq_true,decide_eq_true_eq]at hl
  simp only[runM,Bool.and_eq_true]at h
  have ih:=run_mask hE hn l _ (by simpa[ltB]using hl.2) h.2
  simp only[runOk,afterA,afterM,arrOf_set hl.1,ready_mask hE hn,h.1,Bool.true_and]
  exact ih
theorem pr_mask{ops:List Oper}{E:List (List Nat)}(hE:ops.map edgesOf=E)(hn:E.all (fun l=>l.all fun k=>decide (k<ops.length))=true): ∀(t:PR) (m:Nat),t.okM ops E m=true→t.ok ops (arrOf ops.length m)=true
 | .leaf,m,h=>by simpa only[PR.ok,PR.okM,ready_mask hE hn]using h
 | .run l t,m,h=>by
  simp only[PR.okM,Bool.and_eq_true]at h
  have h1:=run_mask hE hn l m h.1 h.2.1
  simp only[PR.ok,h1.1,h1.2,Bool.true_and]
  exact pr_mask hE hn t _ h.2.2
 | .bl i t,m,h=>by
  simp only[PR.okM,Bool.and_eq_true,decide_eq_true_eq]at h
  simp only[PR.ok,ready_mask hE hn,arrOf_set h.1,h.2.1.1.1,h.2.1.1.2,h.2.1.2,Bool.true_and]
  exact pr_mask hE hn t _ h.2.2
 | .ex i t,m,h=>by
  simp only[PR.okM,Bool.and_eq_true,decide_eq_true_eq]at h
  simp only[PR.ok,ready_mask hE hn,arrOf_set h.1,h.2.1.1.1,h.2.1.1.2,h.2.1.2,Bool.true_and]
  exact pr_mask hE hn t _ h.2.2
 | .dia i j t,m,h=>by
  simp only[PR.okM,Bool.and_eq_true,decide_eq_true_eq]at h
  obtain⟨⟨hi,hj⟩,⟨⟨⟨⟨h1,h2⟩,h3⟩,h4⟩,h5⟩,h6⟩:=h
  simp only[PR.ok,ready_mask hE hn,arrOf_set hi,arrOf_set hj,h1,h2,h3,h4,h5,Bool.true_and]
  exact pr_mask hE hn t _ h6
 | .here a t,m,h=>by
  simp only[PR.okM,Bool.and_eq_true,beq_iff_eq]at h
  obtain⟨rfl,h2⟩:=h
  simp only[PR.ok,BEq.rfl,Bool.true_and]
  exact pr_mask hE hn t _ h2
 | .two i t j u,m,h=>by
  simp only[PR.okM,Bool.and_eq_true,decide_eq_true_eq]at h
  obtain⟨⟨hi,hj⟩,⟨⟨⟨⟨h1,h2⟩,h3⟩,h4⟩,h5⟩,h6⟩:=h
  simp only[PR.ok,ready_mask hE hn,arrOf_set hi,arrOf_set hj,h1,h2,h3,h4,Bool.true_and,pr_mask hE hn t _ h5,pr_mask hE hn u _ h6]
 | .thr i t j u k v,m,h=>by
  simp only[PR.okM,Bool.and_eq_true,decide_eq_true_eq]at h
  obtain⟨⟨⟨hi,hj⟩,hk⟩,⟨⟨⟨⟨⟨⟨⟨h1,h2⟩,h3⟩,h4⟩,h5⟩,h6⟩,h7⟩,h8⟩,h9⟩:=h
  simp only[PR.ok,ready_mask hE hn,arrOf_set hi,arrOf_set hj,arrOf_set hk,h1,h2,h3,h4,h5,h6,Bool.true_and,pr_mask hE hn t _ h7,pr_mask hE hn u _ h8,pr_mask hE hn v _ h9]
def checkPM(ops:List Oper)(N:Nat)(E:List (List Nat))(t:PR):Bool:=
 dstB ops N&&Region.noSelect ops.toArray&&(E.all fun l=>l.all fun k=>decide (k<ops.length))&&t.okM ops E 0&&(t.len==ops.length)
theorem dw_treeM{P:Program}{id:Nat}{l:List Oper}{s:DS}{Q:Exit→DS→Prop}{N:Nat}(hd:List Nat)(E:List (List Nat))(t:PR)(hm:P.follows .mixedOrders=true)(hn:s.n=N)(hE:l.map edgesOf=E)(hc:checkPM l N E t=true)
  (h:t.wk P l hd (l.map (·.dst)) s (Q .normal)):DW P (.region id l.toArray true) s Q:=by
 simp only[checkPM,Bool.and_eq_true]at hc
 obtain⟨⟨⟨⟨h1,h2⟩,h3⟩,h4⟩,h5⟩:=hc
 refine dw_treeR hd t hm hn ?_ h
 simp only[checkPR,Bool.and_eq_true]
 rw[arrOf_zero]
 exact⟨⟨⟨h1,h2⟩,pr_mask hE h3 t 0 h4⟩,h5⟩
end
end Go.Dl
namespace Go.Proofs.YtehdkccjaeckhaaGreatDoor
open Go.Dl
open S (usort)
attribute [local irreducible] DW DCalls ECalls wk IW
theorem lawSorted(g:Lng)(hm:MidL g):DCalls Tryz.prog 9 [.agg (lngRow g.x g.d)] (dv (lb true)):=by
 have hmax:maxLen=9223372036854775807:=rfl
 have hL:=rLight_D g hm
 have hW:=awake_D
 simp only[lngRow]at hL
 refine kd (N:=98) (rs:= [.tmp 2]) Tryz.func9 ?_
 cases t1:lightB g
 ·rw[t1]at hL
  (repeat'(first|apply kA|apply kB|((first|refine kc (N:=98) ?_|refine kj (N:=98) kt63 ?_|apply kD|apply kE|refine kx hL ?_|refine kx hW ?_|apply kF);simp +decide only[go_sem,lngRow])|(apply kG;(simp +decide only[go_sem,lngRow];rfl);all_goals(intro hcnd;try exact kz hcnd))|((first|apply kH|apply kI)<;>(intro hcnd;simp +decide only[go_sem,hcnd,lngRow]))))
 rw[t1]at hL
 have hok:=light_ok hm t1
 clear t1
 generalize g.x=x at hL ⊢
 generalize g.d=d at hL hok ⊢
 have hO:=order56_D x hok
 have hf:=hok.few
 have hol:=ord_len d
 simp only[lngRow]at hO
 (repeat'(first|apply kA|apply kB|((first|refine kc (N:=98) ?_|refine kj (N:=98) kt63 ?_|apply kD|apply kE|refine kx hL ?_|refine kx hO ?_);simp +decide only[go_sem,lngRow])|(apply kG;(simp +decide only[go_sem,lngRow];rfl);all_goals(intro hcnd;try exact kz hcnd))|((first|apply kH|apply kI)<;>(intro hcnd;simp +decide only[go_sem,hcnd,lngRow]))))
 refine dw_loop_fam (fun k:Nat=>kn 98 [(1,.one (.bx 1 9 0 0)),(3,dv (.sl 1 (ints (d.ord.map (·.id))))),(4,dv (li k))] (ml [(1,[lngRow x d])])) (fun k=>1≤k) (fun k=>d.ord.length - k) 1
  (kM rfl (by simp +decide only[go_sem,lngRow]) (by simp +decide only[go_sem,lngRow])) (by omega) ?_
 intro k hk1
 by_cases hkl:k<d.ord.length
 ·have hlt:decide ((k:Int)<(d.ord.length:Int))=true:=by simp;omega
  have hw:=wrap_succ k (by omega)
  obtain⟨b,hb⟩: ∃b,d.ord[k]? =some b:=⟨_,List.getElem?_eq_getElem hkl⟩
  obtain⟨a,ha⟩: ∃a,d.ord[k - 1]? =some a:=⟨_,List.getElem?_eq_getElem (by omega)⟩
  have hma:=(ord_perm d).mem_iff.1 (List.mem_of_getElem? ha)
  have hmb:=(ord_perm d).mem_iff.1 (List.mem_of_getElem? hb)
  have w1:IntKind.i64.wrap ((k:Int) - 1)=((k - 1:Nat):Int):=by rw[wrap_i64 (by omega) (by omega)];omega
  have hGa:=rGet_D d.lex a.id (by omega)
  rw[getE_up hok.up hma]at hGa
  have hGb:=rGet_D d.lex b.id (by omega)
  rw[getE_up hok.up hmb]at hGb
  have hSa:=spelled_D x hok a.form (by have:=hok.frm a hma;omega)
  have hSb:=spelled_D x hok b.form (by have:=hok.frm b hmb;omega)
  have hC:=rCompare_D x.nm d.units d.letters (d.sp a.form) (d.sp b.form) (by have:=hok.llen;omega) hok.lll (by have:=sp_sz hok hma;omega) (by have:=sp_sz hok hmb;omega)
  have hXa:=rSection_D x.nm d.units d.letters (d.sp a.form) (by have:=hok.llen;omega) hok.lll (by have:=sp_sz hok hma;omega)
  have hXb:=rSection_D x.nm d.units d.letters (d.sp b.form) (by have:=hok.llen;omega) hok.lll (by have:=sp_sz hok hmb;omega)
  have hst:keyE d.letters (d.sp a.form)<keyE d.letters (d.sp b.form)∨keyE d.letters (d.sp a.form)=keyE d.letters (d.sp b.form)∧a.id<b.id:=by
   have h:=List.pairwise_iff_getElem.1 (ord_strict hok.up) (k - 1) k (by omega) hkl (by omega)
   rw[(List.getElem?_eq_some_iff.1 ha).2,(List.getElem?_eq_some_iff.1 hb).2]at h
   exact h
  have hkey: ¬keyE d.letters (d.sp b.form)<keyE d.letters (d.sp a.form):=fun h=>by
   rcases hst with h1|⟨h1,-⟩
   ·exact List.lt_asymm h1 h
   ·rw[h1]at h;exact List.lt_irrefl _ h
  have hsm:=sect_mono d.letters _ _ hkey
  have hcp: ¬0<cmpK (keyE d.letters (d.sp a.form)) (keyE d.letters (d.sp b.form)):=fun h=>hkey (cmpK_pos.1 h)
  have hcz:cmpK (keyE d.letters (d.sp a.form)) (keyE d.letters (d.sp b.form))=0→a.id<b.id:=fun h=>by
   rcases hst with h1|⟨-,h2⟩
   ·rw[cmpK_zero.1 h]at h1;exact absurd h1 (List.lt_irrefl _)
   ·exact h2
  generalize cmpK (keyE d.letters (d.sp a.form)) (keyE d.letters (d.sp b.form))=c at hC hcp hcz
  generalize sectE d.letters (d.sp a.form)=sa at hXa hsm
  generalize sectE d.letters (d.sp b.form)=sb at hXb hsm
  have hxa:(ints (d.ord.map (·.id)))[k - 1]? =some [li a.id]:=by simp[ints,ha]
  have hxb:(ints (d.ord.map (·.id)))[k]? =some [li b.id]:=by simp[ints,hb]
  simp only[lngRow,Ent.row,ortRow]at hGa hGb hSa hSb hC hXa hXb
  (repeat'(first|apply kA|apply kB|((first|refine kc (N:=98) ?_|refine kj (N:=98) kt63 ?_|apply kD|apply kE);simp +decide only[go_sem,hlt,lngRow])|(apply kG;(simp +decide only[go_sem,hlt,lngRow];rfl);all_goals(intro hcnd;try exact kz hcnd))|((first|apply kH|apply kI)<;>(intro hcnd;simp +decide only[go_sem,hcnd,hlt,lngRow]))))
  refine dw_afterN (fun _:Unit=>kn 98 [(1,.one (.bx 1 9 0 0)),(3,dv (.sl 1 (ints (d.ord.map (·.id))))),(4,dv (li k)),(5,.one (.bx 5 8 0 0))] (ml [(1,[lngRow x d]),(5,[a.row])])) (fun _=>True) ?_ ?_
  ·apply dw_treeM (id:=7) (N:=98) [] [[],[0],[],[],[3],[2,4],[5],[1,6],[7],[8],[8],[],[11,9,7,0,1,2,3,4,5,6,7,8,9,11],[10,12,0,1,2,3,4,5,6,7,8,9,10,11,12]] (.bl 0 (.bl 2 (.bl 3 (.thr 1 (.two 4 (.two 5 (.two 6 (.two 7 (.bl 8 (.ex 9 (.ex 10 (.run [11,12,13] .leaf)))) 11 (.run [7,8] (.ex 9 (.ex 10 (.run [12,13] .leaf))))) 11 (.run [6,7,8] (.ex 9 (.ex 10 (.run [12,13] .leaf))))) 11 (.run [5,6,7,8] (.ex 9 (.ex 10 (.run [12,13] .leaf))))) 11 (.run [4,5,6,7,8] (.ex 9 (.ex 10 (.run [12,13] .leaf))))) 4 (.thr 1 (.two 5 (.two 6 (.two 7 (.bl 8 (.ex 9 (.ex 10 (.run [11,12,13] .leaf)))) 11 (.run [7,8] (.ex 9 (.ex 10 (.run [12,13] .leaf))))) 11 (.run [6,7,8] (.ex 9 (.ex 10 (.run [12,13] .leaf))))) 11 (.run [5,6,7,8] (.ex 9 (.ex 10 (.run [12,13] .leaf))))) 5 (.thr 1 (.two 6 (.two 7 (.bl 8 (.ex 9 (.ex 10 (.run [11,12,13] .leaf)))) 11 (.run [7,8] (.ex 9 (.ex 10 (.run [12,13] .leaf))))) 11 (.run [6,7,8] (.ex 9 (.ex 10 (.run [12,13] .leaf))))) 6 (.two 1 (.two 7 (.bl 8 (.ex 9 (.ex 10 (.run [11,12,13] .leaf)))) 11 (.run [7,8] (.ex 9 (.ex 10 (.run [12,13] .leaf))))) 11 (.run [1,7,8] (.ex 9 (.ex 10 (.run [12,13] .leaf))))) 11 (.dia 1 6 (.run [7,8] (.ex 9 (.ex 10 (.run [12,13] .leaf)))))) 11 (.two 1 (.run [5,6,7,8] (.ex 9 (.ex 10 (.run [12,13] .leaf)))) 5 (.dia 1 6 (.run [7,8] (.ex 9 (.ex 10 (.run [12,13] .leaf))))))) 11 (.two 1 (.run [4,5,6,7,8] (.ex 9 (.ex 10 (.run [12,13] .leaf)))) 4 (.two 1 (.run [5,6,7,8] (.ex 9 (.ex 10 (.run [12,13] .leaf)))) 5 (.dia 1 6 (.run [7,8] (.ex 9 (.ex 10 (.run [12,13] .leaf)))))))))));kernel_rfl;rfl;kernel_rfl;kernel_rfl
   simp only[List.append_eq,List.cons_append,List.nil_append,List.map_cons,List.map_nil]
   simp +decide only[go_sem,w1,hxa,ha,Int.toNat_natCast,Option.map_some,lngRow,Ent.row]
   (repeat'(first|apply And.intro|(refine kw hGa ?_;simp +decide only[go_sem,w1,hxa,ha,Int.toNat_natCast,Option.map_some,lngRow,Ent.row])|(refine kO (hGa) (kP rfl) ?_;simp +decide only[go_sem,w1,hxa,ha,Int.toNat_natCast,Option.map_some,lngRow,Ent.row])))
   all_goals exact⟨(),kM rfl (by simp +decide only[go_sem,lngRow,Ent.row]) (by simp +decide only[go_sem,lngRow,Ent.row])⟩
  rintro _ _
  (repeat'(first|apply kA|apply kB|((first|refine kc (N:=98) ?_|refine kj (N:=98) kt63 ?_|apply kD|apply kE);simp +decide only[go_sem,lngRow,Ent.row])|(apply kG;(simp +decide only[go_sem,lngRow,Ent.row];rfl);all_goals(intro hcnd;try exact kz hcnd))|((first|apply kH|apply kI)<;>(intro hcnd;simp +decide only[go_sem,hcnd,lngRow,Ent.row]))))
  refine dw_afterN (fun _:Unit=>kn 98 [(1,.one (.bx 1 9 0 0)),(3,dv (.sl 1 (ints (d.ord.map (·.id))))),(4,dv (li k)),(5,.one (.bx 5 8 0 0)),(7,.one (.bx 7 8 0 0))] (ml [(1,[lngRow x d]),(5,[a.row]),(7,[b.row])])) (fun _=>True) ?_ ?_
  ·apply dw_treeM (id:=8) (N:=98) [] [[],[0],[],[],[2,3],[4],[1,5],[6],[7],[7],[],[10,8,6,0,1,2,3,4,5,6,7,8,10],[9,11,0,1,2,3,4,5,6,7,8,9,10,11]] (.bl 0 (.bl 2 (.bl 3 (.thr 1 (.two 4 (.two 5 (.two 6 (.bl 7 (.ex 8 (.ex 9 (.run [10,11,12] .leaf)))) 10 (.run [6,7] (.ex 8 (.ex 9 (.run [11,12] .leaf))))) 10 (.run [5,6,7] (.ex 8 (.ex 9 (.run [11,12] .leaf))))) 10 (.run [4,5,6,7] (.ex 8 (.ex 9 (.run [11,12] .leaf))))) 4 (.thr 1 (.two 5 (.two 6 (.bl 7 (.ex 8 (.ex 9 (.run [10,11,12] .leaf)))) 10 (.run [6,7] (.ex 8 (.ex 9 (.run [11,12] .leaf))))) 10 (.run [5,6,7] (.ex 8 (.ex 9 (.run [11,12] .leaf))))) 5 (.two 1 (.two 6 (.bl 7 (.ex 8 (.ex 9 (.run [10,11,12] .leaf)))) 10 (.run [6,7] (.ex 8 (.ex 9 (.run [11,12] .leaf))))) 10 (.run [1,6,7] (.ex 8 (.ex 9 (.run [11,12] .leaf))))) 10 (.dia 1 5 (.run [6,7] (.ex 8 (.ex 9 (.run [11,12] .leaf)))))) 10 (.two 1 (.run [4,5,6,7] (.ex 8 (.ex 9 (.run [11,12] .leaf)))) 4 (.dia 1 5 (.run [6,7] (.ex 8 (.ex 9 (.run [11,12] .leaf))))))))));kernel_rfl;rfl;kernel_rfl;kernel_rfl
   simp only[List.append_eq,List.cons_append,List.nil_append,List.map_cons,List.map_nil]
   simp +decide only[go_sem,hxb,hb,Int.toNat_natCast,Option.map_some,lngRow,Ent.row]
   (repeat'(first|apply And.intro|(refine kw hGb ?_;simp +decide only[go_sem,hxb,hb,Int.toNat_natCast,Option.map_some,lngRow,Ent.row])|(refine kO (hGb) (kP rfl) ?_;simp +decide only[go_sem,hxb,hb,Int.toNat_natCast,Option.map_some,lngRow,Ent.row])))
   all_goals exact⟨(),kM rfl (by simp +decide only[go_sem,lngRow,Ent.row]) (by simp +decide only[go_sem,lngRow,Ent.row])⟩
  rintro _ _
  have c1:decide (0<c)=false:=by simpa using hcp
  have hend: ∀s':DS,s'.Sub (kn 98 [(1,.one (.bx 1 9 0 0)),(3,dv (.sl 1 (ints (d.ord.map (·.id))))),(4,dv (li (k+1:Nat)))] (ml [(1,[lngRow x d])]))→∃x',1≤x'∧d.ord.length - x'<d.ord.length - k∧s'.Sub (kn 98 [(1,.one (.bx 1 9 0 0)),(3,dv (.sl 1 (ints (d.ord.map (·.id))))),(4,dv (li (x':Nat)))] (ml [(1,[lngRow x d])])):=fun s' h=>⟨k+1,by omega,by omega,h⟩
  cases c2:c==0
  ·cases c3:decide (0≤sa)
   ·(repeat'(first|apply kA|apply kB|((first|refine kc (N:=98) ?_|refine kj (N:=98) kt63 ?_|apply kD|apply kE|refine kx hSa ?_|refine kx hSb ?_|refine kx hC ?_|refine kx hXa ?_|refine kx hXb ?_);simp +decide only[go_sem,w1,hw,c1,c2,c3,lngRow,Ent.row])|(apply kG;(simp +decide only[go_sem,w1,hw,c1,c2,c3,lngRow,Ent.row];rfl);all_goals(intro hcnd;try exact kz hcnd))|((first|apply kH|apply kI)<;>(intro hcnd;simp +decide only[go_sem,hcnd,w1,hw,c1,c2,c3,lngRow,Ent.row]))))
    exact hend _ (kM rfl (by simp +decide only[go_sem,lngRow]) (by simp +decide only[go_sem,lngRow]))
   ·cases c4:decide (0≤sb)
    ·(repeat'(first|apply kA|apply kB|((first|refine kc (N:=98) ?_|refine kj (N:=98) kt63 ?_|apply kD|apply kE|refine kx hSa ?_|refine kx hSb ?_|refine kx hC ?_|refine kx hXa ?_|refine kx hXb ?_);simp +decide only[go_sem,w1,hw,c1,c2,c3,c4,lngRow,Ent.row])|(apply kG;(simp +decide only[go_sem,w1,hw,c1,c2,c3,c4,lngRow,Ent.row];rfl);all_goals(intro hcnd;try exact kz hcnd))|((first|apply kH|apply kI)<;>(intro hcnd;simp +decide only[go_sem,hcnd,w1,hw,c1,c2,c3,c4,lngRow,Ent.row]))))
     exact hend _ (kM rfl (by simp +decide only[go_sem,lngRow]) (by simp +decide only[go_sem,lngRow]))
    ·have c5:decide (sb<sa)=false:=by have:=hsm (by simpa using c3) (by simpa using c4);simp;omega
     (repeat'(first|apply kA|apply kB|((first|refine kc (N:=98) ?_|refine kj (N:=98) kt63 ?_|apply kD|apply kE|refine kx hSa ?_|refine kx hSb ?_|refine kx hC ?_|refine kx hXa ?_|refine kx hXb ?_);simp +decide only[go_sem,w1,hw,c1,c2,c3,c4,c5,lngRow,Ent.row])|(apply kG;(simp +decide only[go_sem,w1,hw,c1,c2,c3,c4,c5,lngRow,Ent.row];rfl);all_goals(intro hcnd;try exact kz hcnd))|((first|apply kH|apply kI)<;>(intro hcnd;simp +decide only[go_sem,hcnd,w1,hw,c1,c2,c3,c4,c5,lngRow,Ent.row]))))
     exact hend _ (kM rfl (by simp +decide only[go_sem,lngRow]) (by simp +decide only[go_sem,lngRow]))
  ·have c6:decide (b.id≤a.id)=false:=by have:=hcz (by simpa using c2);simp;omega
   cases c3:decide (0≤sa)
   ·(repeat'(first|apply kA|apply kB|((first|refine kc (N:=98) ?_|refine kj (N:=98) kt63 ?_|apply kD|apply kE|refine kx hSa ?_|refine kx hSb ?_|refine kx hC ?_|refine kx hXa ?_|refine kx hXb ?_);simp +decide only[go_sem,w1,hw,hxa,hxb,ha,hb,Option.map_some,Int.toNat_natCast,c1,c2,c3,c6,lngRow,Ent.row])|(apply kG;(simp +decide only[go_sem,w1,hw,hxa,hxb,ha,hb,Option.map_some,Int.toNat_natCast,c1,c2,c3,c6,lngRow,Ent.row];rfl);all_goals(intro hcnd;try exact kz hcnd))|((first|apply kH|apply kI)<;>(intro hcnd;simp +decide only[go_sem,hcnd,w1,hw,hxa,hxb,ha,hb,Option.map_some,Int.toNat_natCast,c1,c2,c3,c6,lngRow,Ent.row]))))
    exact hend _ (kM rfl (by simp +decide only[go_sem,lngRow]) (by simp +decide only[go_sem,lngRow]))
   ·cases c4:decide (0≤sb)
    ·(repeat'(first|apply kA|apply kB|((first|refine kc (N:=98) ?_|refine kj (N:=98) kt63 ?_|apply kD|apply kE|refine kx hSa ?_|refine kx hSb ?_|refine kx hC ?_|refine kx hXa ?_|refine kx hXb ?_);simp +decide only[go_sem,w1,hw,hxa,hxb,ha,hb,Option.map_some,Int.toNat_natCast,c1,c2,c3,c4,c6,lngRow,Ent.row])|(apply kG;(simp +decide only[go_sem,w1,hw,hxa,hxb,ha,hb,Option.map_some,Int.toNat_natCast,c1,c2,c3,c4,c6,lngRow,Ent.row];rfl);all_goals(intro hcnd;try exact kz hcnd))|((first|apply kH|apply kI)<;>(intro hcnd;simp +decide only[go_sem,hcnd,w1,hw,hxa,hxb,ha,hb,Option.map_some,Int.toNat_natCast,c1,c2,c3,c4,c6,lngRow,Ent.row]))))
     exact hend _ (kM rfl (by simp +decide only[go_sem,lngRow]) (by simp +decide only[go_sem,lngRow]))
    ·have c5:decide (sb<sa)=false:=by have:=hsm (by simpa using c3) (by simpa using c4);simp;omega
     (repeat'(first|apply kA|apply kB|((first|refine kc (N:=98) ?_|refine kj (N:=98) kt63 ?_|apply kD|apply kE|refine kx hSa ?_|refine kx hSb ?_|refine kx hC ?_|refine kx hXa ?_|refine kx hXb ?_);simp +decide only[go_sem,w1,hw,hxa,hxb,ha,hb,Option.map_some,Int.toNat_natCast,c1,c2,c3,c4,c5,c6,lngRow,Ent.row])|(apply kG;(simp +decide only[go_sem,w1,hw,hxa,hxb,ha,hb,Option.map_some,Int.toNat_natCast,c1,c2,c3,c4,c5,c6,lngRow,Ent.row];rfl);all_goals(intro hcnd;try exact kz hcnd))|((first|apply kH|apply kI)<;>(intro hcnd;simp +decide only[go_sem,hcnd,w1,hw,hxa,hxb,ha,hb,Option.map_some,Int.toNat_natCast,c1,c2,c3,c4,c5,c6,lngRow,Ent.row]))))
     exact hend _ (kM rfl (by simp +decide only[go_sem,lngRow]) (by simp +decide only[go_sem,lngRow]))
 ·have hlt:decide ((k:Int)<(d.ord.length:Int))=false:=by simp;omega
  (repeat'(first|apply kA|apply kB|((first|refine kc (N:=98) ?_|refine kj (N:=98) kt63 ?_|apply kD|apply kE|refine kx hW ?_|apply kF);simp +decide only[go_sem,hlt])|(apply kG;(simp +decide only[go_sem,hlt];rfl);all_goals(intro hcnd;try exact kz hcnd))|((first|apply kH|apply kI)<;>(intro hcnd;simp +decide only[go_sem,hcnd,hlt]))))
end Go.Proofs.YtehdkccjaeckhaaGreatDoor
