/- Dictionaries: the laws that compare with the reference. -/
import Derived.Lib.ItoaNum
import Derived.Lib.AtoiAll
import Derived.Sort.Walk0
import Derived.WalkKit
import Derived.BigCall
import Derived.Lib.LaidTab
import Derived.Test.YtehdkccjaeckhaaGreatDoorn5
set_option linter.all false
set_option linter.unusedVariables false
set_option linter.unusedSimpArgs false
set_option maxRecDepth 10000
set_option maxHeartbeats 8000000
namespace Go.Proofs.YtehdkccjaeckhaaGreatDoor
abbrev kpyd33:List (Nat×Go.Dl.Mode):= [(0,.light),(1,.light),(2,.light),(3,.light),(4,.light),(5,.step)]
abbrev kpyd34:List (Nat×Go.Dl.Mode):= [(0,.light),(1,.light),(2,.light),(3,.light),(4,.light),(5,.light),(6,.light),(7,.step),(8,.light),(9,.light),(10,.light),(11,.light),(12,.light),(13,.light),(14,.light),(15,.light),(16,.light),(17,.light),(18,.light),(19,.light),(20,.light),(21,.light),(22,.light),(23,.light),(24,.light),(25,.light),(26,.light),(27,.light),(28,.light)]
abbrev kpyd35:List (Nat×Go.Dl.Mode):= [(0,.light),(1,.light),(2,.light),(3,.light),(4,.light),(5,.light),(6,.light),(7,.light),(8,.light),(9,.light),(10,.step),(11,.light)]
abbrev kpyd36:List (Nat×Go.Dl.Mode):= [(0,.light),(1,.light),(2,.light),(3,.light),(4,.light),(5,.light),(6,.light),(7,.light),(8,.light),(9,.light),(10,.light),(11,.light),(12,.light),(13,.light),(14,.step),(15,.light)]
abbrev kpyd37:List (Nat×Go.Dl.Mode):= [(0,.light),(1,.light),(2,.light),(3,.step),(4,.step),(5,.light),(6,.step),(7,.light),(8,.light)]
abbrev kt31:Nat→List (Nat×Go.Dl.Mode):=fun n=>match n with|8=>kpn5|_=> [(9999,.light)]
abbrev kt33:Nat→List (Nat×Go.Dl.Mode):=fun n=>match n with|6=>kpn30|_=> [(9999,.light)]
abbrev kt36:Nat→List (Nat×Go.Dl.Mode):=fun n=>match n with|18=>kpn17|_=> [(9999,.light)]
abbrev kt37:Nat→List (Nat×Go.Dl.Mode):=fun n=>match n with|4=>kpn3|6=>kpn3|_=> [(9999,.light)]
abbrev kt45:Nat→List (Nat×Go.Dl.Mode):=fun n=>match n with|5=>kpn12|_=> [(9999,.light)]
abbrev kt46:Nat→List (Nat×Go.Dl.Mode):=fun n=>match n with|5=>kpn17|11=>kpn7|18=>kpn2|32=>kpn16|_=> [(9999,.light)]
abbrev kt48:Nat→List (Nat×Go.Dl.Mode):=fun n=>match n with|2=>kpn30|_=> [(9999,.light)]
abbrev kt49:Nat→List (Nat×Go.Dl.Mode):=fun n=>match n with|5=>kpyd33|6=>kpn2|_=> [(9999,.light)]
abbrev kt50:Nat→List (Nat×Go.Dl.Mode):=fun n=>match n with|12=>kpyd34|_=> [(9999,.light)]
abbrev kt51:Nat→List (Nat×Go.Dl.Mode):=fun n=>match n with|1=>kpyd35|_=> [(9999,.light)]
abbrev kt52:Nat→List (Nat×Go.Dl.Mode):=fun n=>match n with|6=>kpyd36|_=> [(9999,.light)]
abbrev kt53:Nat→List (Nat×Go.Dl.Mode):=fun n=>match n with|8=>kpn4|15=>kpn28|_=> [(9999,.light)]
abbrev kt54:Nat→List (Nat×Go.Dl.Mode):=fun n=>match n with|3=>kpyd37|_=> [(9999,.light)]
end Go.Proofs.YtehdkccjaeckhaaGreatDoor
open Go.Dl renaming dw_seq → kA, dw_block → kB, dw_reg → kC, dw_skip → kD, dw_exit → kE, dw_ret → kF, dw_cond → kG, guardC_f → kH, guardC_t → kI, dw_drw → kJ, dw_weaken → kK, sub_kn → kL, sub_ml → kM
open Go.Dl.CallC renaming mk → kN, light → kO
open Go.Dl.LeL renaming of_eq → kP
namespace Go.Dl
open Go.RowKit
noncomputable section
section
variable {P : Program}
theorem any_only{ops:List Oper}{N:Nat}(hb:dstB ops N=true){K:DS→Prop}{fuel:Nat}{listed:Array Bool}{s:DS}{i:Nat}{o:Oper}(hr:Region.ready .any ops.toArray listed= [i])(ho:ops[i]? =some o)
  (h:guardS P ops o s (AnyOk P ops N K fuel (listed.setIfInBounds i true))):AnyOk P ops N K (fuel+1) listed s:=by
 intro hn X a w hrel
 refine wpAny_all hr (by simp) fun j hj=>?_
 have hji:j=i:=by simpa using hj
 subst hji
 have hd:=dst_of hb ho
 unfold wpOp
 have ho':ops.toArray[j]? =some o:=by simpa using ho
 simp only[ho']
 unfold guardS at h
 split at h
 ·rename_i t ht
  rw[wantD_ok ht hrel]
  split at h
  ·rename_i h3
   rw[if_pos h3]
   refine .inl (Oper.wp_mono ?_ (h (fun d hd'=>by rw[hn];exact hd d hd') X a w hrel _))
   rintro a' w' ⟨s',⟨hn',hs'⟩,hr'⟩
   exact hs' (hn'.trans hn) X a' w' hr'
  ·rename_i h3
   rw[if_neg h3]
   exact h (by rw[put_n];exact hn) X _ w (putAny hrel (fun d hd'=>by rw[hn];exact hd d hd'))
 ·exact h.elim
end
end
end Go.Dl
namespace Go.Dl
open Go.RowKit
noncomputable section
def runOk(ops:List Oper):List Nat→Array Bool→Bool
 | [],_=>true
 | i::l,listed=>(Region.ready .any ops.toArray listed== [i])&&runOk ops l (listed.setIfInBounds i true)
section
variable {P : Program}
theorem any_each{ops:List Oper}{N:Nat}(hb:dstB ops N=true){K:DS→Prop}{fuel:Nat}{listed:Array Bool}{s:DS}{l:List Nat}(hr:Region.ready .any ops.toArray listed=l)(hne:l≠ [])
  (h: ∀i∈l,∃o,ops[i]? =some o∧guardS P ops o s (AnyOk P ops N K fuel (listed.setIfInBounds i true))):AnyOk P ops N K (fuel+1) listed s:=by
 intro hn X a w hrel
 refine wpAny_all hr hne fun j hj=>?_
 obtain⟨o,ho,h⟩:=h j hj
 have hd:=dst_of hb ho
 unfold wpOp
 have ho':ops.toArray[j]? =some o:=by simpa using ho
 simp only[ho']
 unfold guardS at h
 split at h
 ·rename_i t ht
  rw[wantD_ok ht hrel]
  split at h
  ·rename_i h3
   rw[if_pos h3]
   refine .inl (Oper.wp_mono ?_ (h (fun d hd'=>by rw[hn];exact hd d hd') X a w hrel _))
   rintro a' w' ⟨s',⟨hn',hs'⟩,hr'⟩
   exact hs' (hn'.trans hn) X a' w' hr'
  ·rename_i h3
   rw[if_neg h3]
   exact h (by rw[put_n];exact hn) X _ w (putAny hrel (fun d hd'=>by rw[hn];exact hd d hd'))
 ·exact h.elim
theorem wk_guardS{ops:List Oper}{o:Oper}{l:List (Mode×Oper)}{s:DS}{K:DS→Prop}{p:Prop} [Decidable p](h:wk P (ops.map (·.dst)) ((if p then .hand else .step,o)::l) s K):guardS P ops o s fun s'=>wk P (ops.map (·.dst)) l s' K:=by
 have h:=wk_cons h
 unfold GIs at h
 simp only[guardS]
 split at h
 ·rename_i hw
  simp only[hw,if_true]
  split at h
  ·cases h with
   | hand h=>exact h
  ·cases h with
   | step h=>exact h
 ·rename_i hw
  simp only[hw,Bool.false_eq_true,if_false]
  exact h
 ·exact h.elim
theorem guardS_mono{ops:List Oper}{o:Oper}{s:DS}{K K':DS→Prop}(hk: ∀s,K s→K' s)(h:guardS P ops o s K):guardS P ops o s K':=by
 revert h
 simp only[guardS]
 split
 ·split
  ·exact fun h=>h.mono fun s' _=>hk s'
  ·exact hk _
 ·exact id
theorem run_ok{ops:List Oper}{hd:List Nat}{N:Nat}(hb:dstB ops N=true){K K1:DS→Prop}{fuel:Nat}: ∀(l:List Nat) (listed:Array Bool) (s:DS),runOk ops l listed=true→
  wk P (ops.map (·.dst)) (pickH ops hd l) s K1→(∀s,K1 s→AnyOk P ops N K fuel (afterA l listed) s)→(∀i∈l,(ops[i]?).isSome=true)→AnyOk P ops N K (l.length+fuel) listed s
 | [],listed,s,_,h,hk,_=>by
  have:=hk s (by simpa[pickH,wk]using h)
  simpa[afterA]using this
 | i::l,listed,s,hr,h,hk,hs=>by
  simp only[runOk,Bool.and_eq_true,beq_iff_eq]at hr
  have hi:=hs i (by simp)
  cases ho:ops[i]? with
  | none=>rw[ho]at hi;cases hi
  | some o=>
   simp only[pickH,ho]at h
   have hfu:(i::l).length+fuel=(l.length+fuel)+1:=by simp;omega
   rw[hfu]
   exact any_only hb hr.1 ho (guardS_mono (fun s' h'=>run_ok hb l _ s' hr.2 h' hk fun j hj=>hs j (by simp[hj])) (wk_guardS h))
theorem ready_some{ops:List Oper}{listed:Array Bool}{i:Nat}(h:i∈Region.ready .any ops.toArray listed):(ops[i]?).isSome=true:=by
 have h1:i<ops.toArray.size:=by
  unfold Region.ready at h
  have:=(List.mem_filter.1 h).1
  simpa using this
 simp at h1
 simp[h1]
theorem run_some{ops:List Oper}: ∀(l:List Nat) (listed:Array Bool),runOk ops l listed=true→∀i∈l,(ops[i]?).isSome=true
 | [],_,_=>by simp
 | i::l,listed,hr=>by
  simp only[runOk,Bool.and_eq_true,beq_iff_eq]at hr
  intro j hj
  rcases List.mem_cons.1 hj with rfl|hj
  ·exact ready_some (listed:=listed) (by rw[hr.1];simp)
  ·exact run_some l _ hr.2 j hj
end
end
end Go.Dl
namespace Go.Proofs.YtehdkccjaeckhaaGreatDoor
theorem lettersF_head(ls:List (List ByteArray))(s:ByteArray): ∀n p x a b all,(lettersF ls s n p (x::a) b all).1.head? =some x
 | 0,_,x,a,b,all=>rfl
 | n+1,p,x,a,b,all=>by
  simp only[lettersF]
  split
  ·rfl
  ·split
   ·exact lettersF_head ls s n _ x _ _ _
   ·exact lettersF_head ls s n _ x _ _ _
theorem byteAt_nonneg(s:ByteArray)(p:Nat):0≤byteAt s p:=by
 unfold byteAt
 cases s.data.toList[p]? with
 | none=>simp
 | some b=>simp only[Option.map_some,Option.getD_some];omega
theorem sect_key(ls:List (List ByteArray))(s:ByteArray):(match (lettersE ls s).1.head? with|some x=>if(ls.length:Int)≤x then -1 else x|none=> -1)=sectE ls s:=by
 unfold lettersE sectE
 by_cases h:s.size=0
 ·simp[h,lettersF]
 ·obtain⟨n,hn⟩: ∃n,s.size=n+1:=⟨s.size - 1,by omega⟩
  rw[if_neg h]
  have hx:s.extract 0 s.size=s:=by simp
  rw[hn]
  simp only[lettersF]
  rw[if_neg (by omega),hx]
  cases e:firstE ls s with
  | none=>
   simp only[List.nil_append]
   rw[lettersF_head]
   have:=byteAt_nonneg s 0
   simp only
   rw[if_pos (by omega)]
  | some x=>
   simp only[List.nil_append]
   rw[lettersF_head]
   have:=(firstE_ok ls s x e).1
   simp only
   rw[if_neg (by omega)]
end Go.Proofs.YtehdkccjaeckhaaGreatDoor
namespace Go.Proofs.YtehdkccjaeckhaaGreatDoor
open Go.Dl
open S (usort)
attribute [local irreducible] DW DCalls ECalls wk IW
theorem put_ok(l:List Ent)(p:Ent→Bool)(n:Int)(hl:l.length≤999999):DCalls Tryz.prog 61 [dv (.sl 1 (ints (usort (idsOf l p)))),dv (li n)] (dv (.sl 1 (ints (usort (idsOf l p++ [n]))))):=by
 have h:=r1Put_D (usort (idsOf l p)) n (usort_spec _).1 (by have:=usort_lenI (idsOf l p);have:=idsOf_len l p;omega)
 rwa [putI_usort]at h
theorem idx_up{l:List Int}(k:Nat){x:Int}(h:l[k]? =some x)(hi: ∀y∈l.take k,(x==y)=false):idxF (fun y=>x==y) l=(k:Int):=idxF_at h hi (by simp)
theorem rHom_D(l:List Ent)(id:Int)(hl:l.length≤999999)(hm: ∀e∈l,e.form.length≤maxLen):DCalls Tryz.prog 44 [dv (.sl 8 (l.map Ent.enc)),dv (li id)] (dv (li (homE l id))):=by
 have hmax:maxLen=9223372036854775807:=rfl
 have hG:=rGet_D l id (by omega)
 have hhas:=getE_has l id
 have hmem:(getE l id).2=true→(getE l id).1∈l∧(getE l id).1.id=id:=fun h=>by
  unfold getE at h ⊢
  cases hf:l.find? (fun e=>e.id==id)with
  | none=>rw[hf]at h;cases h
  | some e=>exact⟨List.mem_of_find?_eq_some hf,by simpa using List.find?_some hf⟩
 unfold homE
 generalize getE l id=p at hG hmem hhas
 obtain⟨o,b⟩:=p
 simp only[Ent.row]at hG
 refine kd (N:=58) (rs:= [.tmp 4]) Tryz.func44 ?_
 cases b
 ·(repeat'(first|apply kA|apply kB|((first|refine kc (N:=58) ?_|refine kj (N:=58) kt31 ?_|apply kD|apply kE|refine kx hG ?_|apply kF);simp +decide only[go_sem])|(apply kG;(simp +decide only[go_sem];rfl);all_goals(intro hcnd;try exact kz hcnd))|((first|apply kH|apply kI)<;>(intro hcnd;simp +decide only[go_sem,hcnd]))))
 ·obtain⟨ho,hoid⟩:=hmem rfl
  simp only at ho hoid
  (repeat'(first|apply kA|apply kB|((first|refine kc (N:=58) ?_|refine kj (N:=58) kt31 ?_|apply kD|apply kE|refine kx hG ?_);simp +decide only[go_sem])|(apply kG;(simp +decide only[go_sem];rfl);all_goals(intro hcnd;try exact kz hcnd))|((first|apply kH|apply kI)<;>(intro hcnd;simp +decide only[go_sem,hcnd]))))
  refine dw_slot 7 (dv (.sl 1 [])) (by simp +decide only[go_sem]) ?_
  refine dw_after (fun _:Unit=>kn 58 [(1,dv (li id)),(7,dv (.sl 1 (ints (usort (idsOf l fun e=>decide (e.form=o.form))))))] noMem) (fun _=>True) ?_ ?_
  ·refine dw_rng0 l (fun k=>kn 58 [(0,dv (.sl 8 (l.map Ent.enc))),(1,dv (li id)),(5,.one (.bx 5 8 0 0)),(7,dv (.sl 1 (ints (usort (idsOf (l.take k) fun e=>decide (e.form=o.form)))))),(19,dv (li l.length)),(20,dv (li k))] (ml [(5,[o.row])])) (by omega) (kM rfl (by simp +decide only[go_sem,List.take_zero,idsOf_nil,usort_nil,List.map_nil]) (by simp +decide only[go_sem,Ent.row])) ?_ ?_
   ·intro k e he hk hmm htk hlt hw
    have hS:=sameI_D e.form o.form (hm e hmm)
    have hP:=put_ok (l.take k) (fun e=>decide (e.form=o.form)) e.id (by rw[List.length_take];omega)
    have hst:usort (idsOf (l.take (k+1)) fun e=>decide (e.form=o.form))=if decide (e.form=o.form)=true then usort (idsOf (l.take k) (fun e=>decide (e.form=o.form))++ [e.id])else usort (idsOf (l.take k) fun e=>decide (e.form=o.form)):=by
     rw[htk,idsOf_snoc]
     by_cases h:decide (e.form=o.form)=true
     ·rw[if_pos h,if_pos h]
     ·rw[if_neg h,if_neg h,List.append_nil]
    cases t1:decide (e.form=o.form)
    ·rw[t1]at hS hst
     rw[if_neg (by decide)]at hst
     (repeat'(first|apply kA|apply kB|((first|refine kc (N:=58) ?_|refine kj (N:=58) kt31 ?_|apply kD|apply kE|refine kx hS ?_|apply kF);simp +decide only[go_sem,hlt,hw,he,Ent.enc,Ent.row])|(apply kG;(simp +decide only[go_sem,hlt,hw,he,Ent.enc,Ent.row];rfl);all_goals(intro hcnd;try exact kz hcnd))|((first|apply kH|apply kI)<;>(intro hcnd;simp +decide only[go_sem,hcnd,hlt,hw,he,Ent.enc,Ent.row]))))
     exact kM rfl (by simp +decide only[go_sem,hst]) (by simp +decide only[go_sem,Ent.row])
    ·rw[t1]at hS hst
     rw[if_pos rfl]at hst
     (repeat'(first|apply kA|apply kB|((first|refine kc (N:=58) ?_|refine kj (N:=58) kt31 ?_|apply kD|apply kE|refine kx hS ?_|refine kx hP ?_|apply kF);simp +decide only[go_sem,hlt,hw,he,Ent.enc,Ent.row])|(apply kG;(simp +decide only[go_sem,hlt,hw,he,Ent.enc,Ent.row];rfl);all_goals(intro hcnd;try exact kz hcnd))|((first|apply kH|apply kI)<;>(intro hcnd;simp +decide only[go_sem,hcnd,hlt,hw,he,Ent.enc,Ent.row]))))
     exact kM rfl (by simp +decide only[go_sem,hst]) (by simp +decide only[go_sem,Ent.row])
   ·intro hlt
    rw[List.take_length]
    (repeat'(first|apply kA|apply kB|((first|refine kc (N:=58) ?_|refine kj (N:=58) kt31 ?_|apply kD|apply kE);simp +decide only[go_sem,hlt])|(apply kG;(simp +decide only[go_sem,hlt];rfl);all_goals(intro hcnd;try exact kz hcnd))|((first|apply kH|apply kI)<;>(intro hcnd;simp +decide only[go_sem,hcnd,hlt]))))
    exact⟨(),kL rfl (by simp +decide only[go_sem]) (by simp[noMem])⟩
  rintro _ _
  have hid:id∈usort (idsOf l fun e=>decide (e.form=o.form)):=((usort_spec _).2 id).2 (mem_ids.2 ⟨o,ho,by simp,hoid⟩)
  have hup:=(usort_spec (idsOf l fun e=>decide (e.form=o.form))).1
  have hlen:(usort (idsOf l fun e=>decide (e.form=o.form))).length≤999999:=by
   have:=usort_lenI (idsOf l fun e=>decide (e.form=o.form));have:=idsOf_len l (fun e=>decide (e.form=o.form));omega
  generalize usort (idsOf l fun e=>decide (e.form=o.form))=xs at hid hup hlen
  (repeat'(first|apply kA|apply kB|((first|refine kc (N:=58) ?_|refine kj (N:=58) kt31 ?_|apply kD|apply kE);simp +decide only[go_sem])|(apply kG;(simp +decide only[go_sem];rfl);all_goals(intro hcnd;try exact kz hcnd))|((first|apply kH|apply kI)<;>(intro hcnd;simp +decide only[go_sem,hcnd]))))
  refine dw_rngI xs (fun k=>kn 58 [(1,dv (li id)),(7,dv (.sl 1 (ints xs))),(40,dv (li xs.length)),(41,dv (li k))] noMem) (fun k=>xs.length<2∨∀y∈xs.take k,(id==y)=false) (by omega) (kL rfl (by simp +decide only[go_sem]) (by simp[noMem])) (.inr (by simp)) ?_ ?_
  ·intro k x hx hk hmm htk hlt hw hi
   cases t1:x==id
   ·(repeat'(first|apply kA|apply kB|((first|refine kc (N:=58) ?_|refine kj (N:=58) kt31 ?_|apply kD|apply kE|apply kF);simp +decide only[go_sem,hlt,hw,hx,t1])|(apply kG;(simp +decide only[go_sem,hlt,hw,hx,t1];rfl);all_goals(intro hcnd;try exact kz hcnd))|((first|apply kH|apply kI)<;>(intro hcnd;simp +decide only[go_sem,hcnd,hlt,hw,hx,t1]))))
    refine⟨hi.imp (fun h=>h) fun h=>forall_snoc htk h (by simp at t1 ⊢;omega),kL rfl (by simp +decide only[go_sem]) (by simp[noMem])⟩
   ·have hxi:x=id:=by simpa using t1
    cases t2:decide ((1:Int)<(xs.length:Int))
    ·have n2:xs.length<2:=by simp at t2;omega
     (repeat'(first|apply kA|apply kB|((first|refine kc (N:=58) ?_|refine kj (N:=58) kt31 ?_|apply kD|apply kE|apply kF);simp +decide only[go_sem,hlt,hw,hx,t1,t2])|(apply kG;(simp +decide only[go_sem,hlt,hw,hx,t1,t2];rfl);all_goals(intro hcnd;try exact kz hcnd))|((first|apply kH|apply kI)<;>(intro hcnd;simp +decide only[go_sem,hcnd,hlt,hw,hx,t1,t2]))))
     exact⟨.inl n2,kL rfl (by simp +decide only[go_sem]) (by simp[noMem])⟩
    ·have n2: ¬xs.length<2:=by simp at t2;omega
     have hidx:idxF (fun y=>id==y) xs=(k:Int):=by
      rw[← hxi]
      exact idx_up k hx fun y hy=>by rw[hxi];exact(hi.resolve_left n2) y hy
     (repeat'(first|apply kA|apply kB|((first|refine kc (N:=58) ?_|refine kj (N:=58) kt31 ?_|apply kD|apply kE|apply kF);simp +decide only[go_sem,hlt,hw,hx,t1,t2])|(apply kG;(simp +decide only[go_sem,hlt,hw,hx,t1,t2];rfl);all_goals(intro hcnd;try exact kz hcnd))|((first|apply kH|apply kI)<;>(intro hcnd;simp +decide only[go_sem,hcnd,hlt,hw,hx,t1,t2]))))
     rw[if_neg n2,hidx];simp
  ·intro hlt hi
   rw[List.take_length]at hi
   have n2:xs.length<2:=hi.resolve_right fun h=>by have:=h id hid;simp at this
   (repeat'(first|apply kA|apply kB|((first|refine kc (N:=58) ?_|refine kj (N:=58) kt31 ?_|apply kD|apply kE|apply kF);simp +decide only[go_sem,hlt])|(apply kG;(simp +decide only[go_sem,hlt];rfl);all_goals(intro hcnd;try exact kz hcnd))|((first|apply kH|apply kI)<;>(intro hcnd;simp +decide only[go_sem,hcnd,hlt]))))
   rw[if_pos n2]
end Go.Proofs.YtehdkccjaeckhaaGreatDoor
namespace Go.Proofs.YtehdkccjaeckhaaGreatDoor
open Go.Lib
theorem dd_cons{u:Nat}:u≠0→decDigits u=(if u / 10=0 then []else decDigits (u / 10))++ [UInt8.ofNat (48+u % 10)]:=by
 intro h0
 by_cases h:u<10
 ·rw[dd_small h,if_pos (by omega),Nat.mod_eq_of_lt h];rfl
 ·rw[dd_big h,if_neg (by omega)]
theorem itoa_neg{n:Int}(h:n<0):itoa n=45::decDigits n.natAbs:=by rw[itoa,if_pos h]
end Go.Proofs.YtehdkccjaeckhaaGreatDoor
namespace Go.Proofs.YtehdkccjaeckhaaGreatDoor
open Go.Dl
attribute [local irreducible] DW DCalls ECalls wk IW
def gI(a:Fst):Int:=match a with
 | some x=>(x.1:Int)
 | none=> -1
def gK(a:Fst):Int:=match a with
 | some x=>(x.2.1:Int)
 | none=> -1
theorem rLetters_D(nm:ByteArray)(us:List Unt)(lt:List (List ByteArray))(s:ByteArray)(hl:lt.length≤1000000)(hll: ∀l∈lt,l.length≤1000000)(hs:s.size≤1048576):
  DCalls Tryz.prog 60 [.agg (ortRow nm us lt),dv (ls s)] (.tup [dv (.sl 1 (ints (lettersE lt s).1)),dv (.sl 1 (ints (lettersE lt s).2.1)),dv (lb (lettersE lt s).2.2)]):=by
 have hmax:maxLen=9223372036854775807:=rfl
 refine kd (N:=85) (rs:= [.tmp 4,.tmp 5,.tmp 6]) Tryz.func60 ?_
 (repeat'(first|apply kA|apply kB|((first|refine kc (N:=85) ?_|refine kj (N:=85) kt36 ?_|apply kD|apply kE);simp +decide only[go_sem])|(apply kG;(simp +decide only[go_sem];rfl);all_goals(intro hcnd;try exact kz hcnd))|((first|apply kH|apply kI)<;>(intro hcnd;simp +decide only[go_sem,hcnd]))))
 refine dw_own 7 7 1 (by simp +decide only[go_sem]) ?_
 refine dw_own 8 8 1 (by simp +decide only[go_sem]) ?_
 refine dw_loop_fam (fun y:Nat×List Int×List Int×Bool=>kn 85 [(1,dv (ls s)),(2,.one (.bx 2 3 0 0)),(7,.one (.own 7 1 (ints y.2.1))),(8,.one (.own 8 1 (ints y.2.2.1))),(9,dv (lb y.2.2.2)),(10,dv (li y.1))] (ml [(2,[ortRow nm us lt])]))
  (fun y=>y.1≤s.size∧y.2.1.length≤y.1∧y.2.2.1.length≤y.1∧lettersE lt s=lettersF lt s (s.size - y.1) y.1 y.2.1 y.2.2.1 y.2.2.2) (fun y=>s.size - y.1) (0,[],[],true) (kM rfl (by simp +decide only[go_sem,List.map_nil,ortRow,List.length_cons,List.length_nil]) (by simp +decide only[go_sem,ortRow])) ⟨by simp,by simp,by simp,rfl⟩ ?_
 rintro⟨p,a,b,all⟩ ⟨h1,h2,h3,h4⟩
 simp only at h1 h2 h3 h4 ⊢
 have r1:((a.length+1)*8≤140737488355328)=True:=by simp;omega
 have r2:((b.length+1)*8≤140737488355328)=True:=by simp;omega
 by_cases ha:p<s.size
 ·have t1:decide ((p:Int)<(s.size:Int))=true:=by simp;omega
  have z0:(p≤s.size)=True:=by simp;omega
  have hok:=firstE_ok lt (s.extract p s.size)
  obtain⟨m,hm⟩: ∃m,s.size - p=m+1:=⟨s.size - p - 1,by omega⟩
  rw[hm,lettersF,if_neg (by omega)]at h4
  (repeat'(first|apply kA|apply kB|((first|refine kc (N:=85) ?_|refine kj (N:=85) kt36 ?_|apply kD|apply kE);simp +decide only[go_sem,t1,ortRow])|(apply kG;(simp +decide only[go_sem,t1,ortRow];rfl);all_goals(intro hcnd;try exact kz hcnd))|((first|apply kH|apply kI)<;>(intro hcnd;simp +decide only[go_sem,hcnd,t1,ortRow]))))
  refine dw_rng0 lt (fun i=>kn 85 [(1,dv (ls s)),(2,.one (.bx 2 3 0 0)),(7,.one (.own 7 1 (ints a))),(8,.one (.own 8 1 (ints b))),(9,dv (lb all)),(10,dv (li p)),(11,dv (li (gI (letL lt (s.extract p s.size) i)))),(12,dv (li (gK (letL lt (s.extract p s.size) i)))),(13,dv (li (fstSz (letL lt (s.extract p s.size) i)))),(23,dv (li lt.length)),(24,dv (li i))] (ml [(2,[ortRow nm us lt])])) (by omega) (kM rfl (by simp +decide only[go_sem,letL,gI,gK,fstSz,ortRow]) (by simp +decide only[go_sem,ortRow])) ?_ ?_
  ·intro i vs he hk hmm htk hlt hw
   have hvl:=hll vs hmm
   (repeat'(first|apply kA|apply kB|((first|refine kc (N:=85) ?_|refine kj (N:=85) kt36 ?_|apply kD|apply kE);simp +decide only[go_sem,hlt,hw,he,ortRow])|(apply kG;(simp +decide only[go_sem,hlt,hw,he,ortRow];rfl);all_goals(intro hcnd;try exact kz hcnd))|((first|apply kH|apply kI)<;>(intro hcnd;simp +decide only[go_sem,hcnd,hlt,hw,he,ortRow]))))
   refine dw_rng0 vs (fun k=>kn 85 [(1,dv (ls s)),(2,.one (.bx 2 3 0 0)),(7,.one (.own 7 1 (ints a))),(8,.one (.own 8 1 (ints b))),(9,dv (lb all)),(10,dv (li p)),(11,dv (li (gI (letV (s.extract p s.size) i vs (letL lt (s.extract p s.size) i) k)))),(12,dv (li (gK (letV (s.extract p s.size) i vs (letL lt (s.extract p s.size) i) k)))),(13,dv (li (fstSz (letV (s.extract p s.size) i vs (letL lt (s.extract p s.size) i) k)))),(14,dv (li i)),(23,dv (li lt.length)),(24,dv (li i)),(32,dv (li vs.length)),(33,dv (li k))] (ml [(2,[ortRow nm us lt])])) (by omega) (kM rfl (by simp +decide only[go_sem,letV]) (by simp +decide only[go_sem,ortRow])) ?_ ?_
   ·intro k v hs1 hmk hms htm hlt2 hw2
    have hsu:=letV_succ (s:=s.extract p s.size) (i:=i) (a:=letL lt (s.extract p s.size) i) hs1
    generalize letV (s.extract p s.size) i vs (letL lt (s.extract p s.size) i) k=d at hsu ⊢
    by_cases t2:fstSz d<v.size
    ·have h5:((fstSz d:Int)<(v.size:Int))=True:=by simp;omega
     have hp:=rBegins_D (s.extract p s.size) v (by rw[ext_size];omega)
     cases t3:begB (s.extract p s.size) v
     ·rw[t3]at hp
      rw[if_neg (by simp[t3])]at hsu
      (repeat'(first|apply kA|apply kB|((first|refine kc (N:=85) ?_|refine kj (N:=85) kt36 ?_|apply kD|apply kE|refine kx hp ?_|apply kF);simp +decide only[go_sem,hlt2,hw2,he,hs1,h5,z0,ortRow])|(apply kG;(simp +decide only[go_sem,hlt2,hw2,he,hs1,h5,z0,ortRow];rfl);all_goals(intro hcnd;try exact kz hcnd))|((first|apply kH|apply kI)<;>(intro hcnd;simp +decide only[go_sem,hcnd,hlt2,hw2,he,hs1,h5,z0,ortRow]))))
      exact kM rfl (by simp +decide only[go_sem,hsu]) (by simp +decide only[go_sem,ortRow])
     ·rw[t3]at hp
      rw[if_pos (by simp[t2,t3])]at hsu
      (repeat'(first|apply kA|apply kB|((first|refine kc (N:=85) ?_|refine kj (N:=85) kt36 ?_|apply kD|apply kE|refine kx hp ?_|apply kF);simp +decide only[go_sem,hlt2,hw2,he,hs1,h5,z0,ortRow])|(apply kG;(simp +decide only[go_sem,hlt2,hw2,he,hs1,h5,z0,ortRow];rfl);all_goals(intro hcnd;try exact kz hcnd))|((first|apply kH|apply kI)<;>(intro hcnd;simp +decide only[go_sem,hcnd,hlt2,hw2,he,hs1,h5,z0,ortRow]))))
      exact kM rfl (by simp +decide only[go_sem,hsu,gI,gK,fstSz]) (by simp +decide only[go_sem,ortRow])
    ·have h5:((fstSz d:Int)<(v.size:Int))=False:=by simp;omega
     rw[if_neg (by simp[t2])]at hsu
     (repeat'(first|apply kA|apply kB|((first|refine kc (N:=85) ?_|refine kj (N:=85) kt36 ?_|apply kD|apply kE|apply kF);simp +decide only[go_sem,hlt2,hw2,he,hs1,h5,z0,ortRow])|(apply kG;(simp +decide only[go_sem,hlt2,hw2,he,hs1,h5,z0,ortRow];rfl);all_goals(intro hcnd;try exact kz hcnd))|((first|apply kH|apply kI)<;>(intro hcnd;simp +decide only[go_sem,hcnd,hlt2,hw2,he,hs1,h5,z0,ortRow]))))
     exact kM rfl (by simp +decide only[go_sem,hsu]) (by simp +decide only[go_sem,ortRow])
   ·intro hlt2
    (repeat'(first|apply kA|apply kB|((first|refine kc (N:=85) ?_|refine kj (N:=85) kt36 ?_|apply kD|apply kE);simp +decide only[go_sem,hlt2,hw])|(apply kG;(simp +decide only[go_sem,hlt2,hw];rfl);all_goals(intro hcnd;try exact kz hcnd))|((first|apply kH|apply kI)<;>(intro hcnd;simp +decide only[go_sem,hcnd,hlt2,hw]))))
    exact kM rfl (by simp +decide only[go_sem,letL_succ he]) (by simp +decide only[go_sem,ortRow])
  ·intro hlt
   rw[← firstE]
   cases hf:firstE lt (s.extract p s.size)with
   | none=>
    rw[hf]at h4
    simp only at h4
    have hlp:p<s.data.toList.length:=by simpa using ha
    obtain⟨bt,hbt⟩: ∃bt,s.data.toList[p]? =some bt:=⟨_,List.getElem?_eq_getElem hlp⟩
    have hby:byteAt s p=(bt.toNat:Int):=by unfold byteAt;rw[hbt];rfl
    have h256:bt.toNat<256:=bt.toNat_lt
    have u0:IntKind.i64.wrap (bt.toNat:Int)=(bt.toNat:Int):=wrap_i64 (by omega) (by omega)
    have u1:IntKind.i64.wrap ((lt.length:Int)+(bt.toNat:Int))=(lt.length:Int)+(bt.toNat:Int):=wrap_i64 (by omega) (by omega)
    have u2:IntKind.i64.wrap ((p:Int)+1)=((p+1:Nat):Int):=wrap_succ p (by omega)
    (repeat'(first|apply kA|apply kB|((first|refine kc (N:=85) ?_|refine kj (N:=85) kt36 ?_|apply kD|apply kE);simp +decide only[go_sem,hlt,gI,gK,fstSz,ortRow,hbt,u0,u1,r1,r2,u2])|(apply kG;(simp +decide only[go_sem,hlt,gI,gK,fstSz,ortRow,hbt,u0,u1,r1,r2,u2];rfl);all_goals(intro hcnd;try exact kz hcnd))|((first|apply kH|apply kI)<;>(intro hcnd;simp +decide only[go_sem,hcnd,hlt,gI,gK,fstSz,ortRow,hbt,u0,u1,r1,r2,u2]))))
    refine⟨(p+1,a++ [(lt.length:Int)+byteAt s p],b++ [0],false),⟨by simp only;omega,by simp;omega,by simp;omega,?_⟩,by simp only;omega,kM rfl (by simp +decide only[go_sem,ints_snoc,hby,u0,u1,u2]) (by simp +decide only[go_sem,ortRow])⟩
    simp only
    rw[h4,show s.size - (p+1)=m by omega]
   | some x=>
    rw[hf]at h4
    simp only at h4
    obtain⟨x1,x2,x3,-⟩:=hok x hf
    have x4:x.2.2≤s.size - p:=by rw[ext_size]at x3;exact x3
    have u2:IntKind.i64.wrap ((p:Int)+(x.2.2:Int))=((p+x.2.2:Nat):Int):=by rw[wrap_i64 (by omega) (by omega)];rfl
    have t4:((x.1:Int)<0)=False:=by simp
    (repeat'(first|apply kA|apply kB|((first|refine kc (N:=85) ?_|refine kj (N:=85) kt36 ?_|apply kD|apply kE);simp +decide only[go_sem,hlt,gI,gK,fstSz,ortRow,r1,r2,u2,t4])|(apply kG;(simp +decide only[go_sem,hlt,gI,gK,fstSz,ortRow,r1,r2,u2,t4];rfl);all_goals(intro hcnd;try exact kz hcnd))|((first|apply kH|apply kI)<;>(intro hcnd;simp +decide only[go_sem,hcnd,hlt,gI,gK,fstSz,ortRow,r1,r2,u2,t4]))))
    refine⟨(p+x.2.2,a++ [(x.1:Int)],b++ [(x.2.1:Int)],all),⟨by simp only;omega,by simp;omega,by simp;omega,?_⟩,by simp only;omega,kM rfl (by simp +decide only[go_sem,ints_snoc,u2]) (by simp +decide only[go_sem,ortRow])⟩
    simp only
    rw[h4]
    exact lettersF_fuel lt s _ _ _ _ _ _ (by omega) (by omega)
 ·have t1:decide ((p:Int)<(s.size:Int))=false:=by simp;omega
  (repeat'(first|apply kA|apply kB|((first|refine kc (N:=85) ?_|refine kj (N:=85) kt36 ?_|apply kD|apply kE);simp +decide only[go_sem,t1])|(apply kG;(simp +decide only[go_sem,t1];rfl);all_goals(intro hcnd;try exact kz hcnd))|((first|apply kH|apply kI)<;>(intro hcnd;simp +decide only[go_sem,hcnd,t1]))))
  refine dw_slot 4 _ (DLe.own_ _ _ _) ?_
  refine dw_slot 5 _ (DLe.own_ _ _ _) ?_
  apply kF;simp +decide only[go_sem]
  have:s.size - p=0:=by omega
  rw[this,lettersF]at h4
  rw[h4]
theorem rOrder_D(a b:List Int)(ha:a.length≤1048576)(hb:b.length≤1048576):DCalls Tryz.prog 62 [dv (.sl 1 (ints a)),dv (.sl 1 (ints b))] (dv (li (cmpL a b))):=by
 have hmax:maxLen=9223372036854775807:=rfl
 refine kd (N:=46) (rs:= [.tmp 4]) Tryz.func62 ?_
 (repeat(first|apply kA|apply kB|((first|refine kc (N:=46) ?_|refine kj (N:=46) kt37 ?_|apply kD|apply kE);simp +decide only[go_sem])))
 refine dw_loop_fam (fun k:Nat=>kn 46 [(0,dv (.sl 1 (ints a))),(1,dv (.sl 1 (ints b))),(5,dv (li k))] noMem)
  (fun k=>k≤a.length∧k≤b.length∧cmpL a b=cmpL (a.drop k) (b.drop k)) (fun k=>a.length - k) 0 (kL rfl (by simp +decide only[go_sem]) (by simp[noMem])) ⟨by omega,by omega,rfl⟩ ?_
 rintro k ⟨h1,h2,h3⟩
 by_cases ka:k<a.length
 ·have t1:((k:Int)<(a.length:Int))=True:=by simp;omega
  by_cases kb:k<b.length
  ·have t2:((k:Int)<(b.length:Int))=True:=by simp;omega
   have ea:a[k]? =some a[k]:=List.getElem?_eq_getElem ka
   have eb:b[k]? =some b[k]:=List.getElem?_eq_getElem kb
   generalize a[k]=x at ea
   generalize b[k]=y at eb
   rw[drop_at2 ea,drop_at2 eb,cmpL_cons]at h3
   have fa:=ints_at2 ea
   have fb:=ints_at2 eb
   have u2:IntKind.i64.wrap ((k:Int)+1)=((k+1:Nat):Int):=wrap_succ k (by omega)
   by_cases g1:x<y
   ·rw[if_pos g1]at h3
    have v1:decide (x<y)=true:=by simpa using g1
    (repeat'(first|apply kA|apply kB|((first|refine kc (N:=46) ?_|refine kj (N:=46) kt37 ?_|apply kD|apply kE|apply kF);simp +decide only[go_sem,t1,t2,fa,fb,v1])|(apply kG;(simp +decide only[go_sem,t1,t2,fa,fb,v1];rfl);all_goals(intro hcnd;try exact kz hcnd))|((first|apply kH|apply kI)<;>(intro hcnd;simp +decide only[go_sem,hcnd,t1,t2,fa,fb,v1]))))
    rw[h3]
   ·rw[if_neg g1]at h3
    have v1:decide (x<y)=false:=by simpa using g1
    by_cases g2:y<x
    ·rw[if_pos g2]at h3
     have v2:decide (y<x)=true:=by simpa using g2
     (repeat'(first|apply kA|apply kB|((first|refine kc (N:=46) ?_|refine kj (N:=46) kt37 ?_|apply kD|apply kE|apply kF);simp +decide only[go_sem,t1,t2,fa,fb,v1,v2])|(apply kG;(simp +decide only[go_sem,t1,t2,fa,fb,v1,v2];rfl);all_goals(intro hcnd;try exact kz hcnd))|((first|apply kH|apply kI)<;>(intro hcnd;simp +decide only[go_sem,hcnd,t1,t2,fa,fb,v1,v2]))))
     rw[h3]
    ·rw[if_neg g2]at h3
     have v2:decide (y<x)=false:=by simpa using g2
     (repeat'(first|apply kA|apply kB|((first|refine kc (N:=46) ?_|refine kj (N:=46) kt37 ?_|apply kD|apply kE|apply kF);simp +decide only[go_sem,t1,t2,fa,fb,v1,v2,u2])|(apply kG;(simp +decide only[go_sem,t1,t2,fa,fb,v1,v2,u2];rfl);all_goals(intro hcnd;try exact kz hcnd))|((first|apply kH|apply kI)<;>(intro hcnd;simp +decide only[go_sem,hcnd,t1,t2,fa,fb,v1,v2,u2]))))
     exact⟨k+1,⟨by omega,by omega,h3⟩,by omega,kL rfl (by simp +decide only[go_sem,u2]) (by simp[noMem])⟩
  ·have t2:((k:Int)<(b.length:Int))=False:=by simp;omega
   have hk:k=b.length:=by omega
   subst hk
   rw[drop_at2 (List.getElem?_eq_getElem ka),List.drop_length,cmpL_cn]at h3
   have t3:((a.length:Int)<(b.length:Int))=False:=by simp;omega
   have t4:((b.length:Int)<(a.length:Int))=True:=by simp;omega
   (repeat'(first|apply kA|apply kB|((first|refine kc (N:=46) ?_|refine kj (N:=46) kt37 ?_|apply kD|apply kE|apply kF);simp +decide only[go_sem,t1,t2,t3,t4])|(apply kG;(simp +decide only[go_sem,t1,t2,t3,t4];rfl);all_goals(intro hcnd;try exact kz hcnd))|((first|apply kH|apply kI)<;>(intro hcnd;simp +decide only[go_sem,hcnd,t1,t2,t3,t4]))))
   rw[h3]
 ·have t1:((k:Int)<(a.length:Int))=False:=by simp;omega
  have hk:k=a.length:=by omega
  subst hk
  rw[List.drop_length]at h3
  by_cases kb:a.length<b.length
  ·rw[drop_at2 (List.getElem?_eq_getElem kb),cmpL_nc]at h3
   have t3:((a.length:Int)<(b.length:Int))=True:=by simp;omega
   (repeat'(first|apply kA|apply kB|((first|refine kc (N:=46) ?_|refine kj (N:=46) kt37 ?_|apply kD|apply kE|apply kF);simp +decide only[go_sem,t1,t3])|(apply kG;(simp +decide only[go_sem,t1,t3];rfl);all_goals(intro hcnd;try exact kz hcnd))|((first|apply kH|apply kI)<;>(intro hcnd;simp +decide only[go_sem,hcnd,t1,t3]))))
   rw[h3]
  ·have e:a.length=b.length:=by omega
   rw[e,List.drop_length,cmpL_nil]at h3
   have t3:((a.length:Int)<(b.length:Int))=False:=by simp;omega
   have t4:((b.length:Int)<(a.length:Int))=False:=by simp;omega
   (repeat'(first|apply kA|apply kB|((first|refine kc (N:=46) ?_|refine kj (N:=46) kt37 ?_|apply kD|apply kE|apply kF);simp +decide only[go_sem,t1,t3,t4])|(apply kG;(simp +decide only[go_sem,t1,t3,t4];rfl);all_goals(intro hcnd;try exact kz hcnd))|((first|apply kH|apply kI)<;>(intro hcnd;simp +decide only[go_sem,hcnd,t1,t3,t4]))))
   rw[h3]
theorem rSection_D(nm:ByteArray)(us:List Unt)(lt:List (List ByteArray))(s:ByteArray)(hl:lt.length≤1000000)(hll: ∀l∈lt,l.length≤1000000)(hs:s.size≤1048576):
  DCalls Tryz.prog 29 [.agg (ortRow nm us lt),dv (ls s)] (dv (li (sectE lt s))):=by
 have hmax:maxLen=9223372036854775807:=rfl
 have hF:=rLetters_D nm us lt s hl hll hs
 have hk:=sect_key lt s
 generalize lettersE lt s=r at hF hk
 obtain⟨a,b,all⟩:=r
 simp only at hF hk
 cases a with
 | nil=>
  simp only[List.head?_nil]at hk
  refine kd (N:=30) (rs:= [.tmp 4]) Tryz.func29 ?_
  (repeat'(first|apply kA|apply kB|((first|refine kc (N:=30) ?_|refine kj (N:=30) kt48 ?_|apply kD|apply kE|refine kx hF ?_|apply kF);simp +decide only[go_sem,ortRow])|(apply kG;(simp +decide only[go_sem,ortRow];rfl);all_goals(intro hcnd;try exact kz hcnd))|((first|apply kH|apply kI)<;>(intro hcnd;simp +decide only[go_sem,hcnd,ortRow]))))
  rw[← hk]
 | cons x a=>
  simp only[List.head?_cons]at hk
  have t0:((((a.length+1:Nat)):Int)==0)=false:=by rw[beq_eq_false_iff_ne];omega
  by_cases g:(lt.length:Int)≤x
  ·rw[if_pos g]at hk
   have t1:((lt.length:Int)≤x)=True:=by simpa using g
   refine kd (N:=30) (rs:= [.tmp 4]) Tryz.func29 ?_
   (repeat'(first|apply kA|apply kB|((first|refine kc (N:=30) ?_|refine kj (N:=30) kt48 ?_|apply kD|apply kE|refine kx hF ?_|apply kF);simp +decide only[go_sem,ortRow,t0,t1,ints,List.map_cons])|(apply kG;(simp +decide only[go_sem,ortRow,t0,t1,ints,List.map_cons];rfl);all_goals(intro hcnd;try exact kz hcnd))|((first|apply kH|apply kI)<;>(intro hcnd;simp +decide only[go_sem,hcnd,ortRow,t0,t1,ints,List.map_cons]))))
   rw[← hk]
  ·rw[if_neg g]at hk
   have t1:((lt.length:Int)≤x)=False:=by simpa using g
   refine kd (N:=30) (rs:= [.tmp 4]) Tryz.func29 ?_
   (repeat'(first|apply kA|apply kB|((first|refine kc (N:=30) ?_|refine kj (N:=30) kt48 ?_|apply kD|apply kE|refine kx hF ?_|apply kF);simp +decide only[go_sem,ortRow,t0,t1,ints,List.map_cons])|(apply kG;(simp +decide only[go_sem,ortRow,t0,t1,ints,List.map_cons];rfl);all_goals(intro hcnd;try exact kz hcnd))|((first|apply kH|apply kI)<;>(intro hcnd;simp +decide only[go_sem,hcnd,ortRow,t0,t1,ints,List.map_cons]))))
   rw[← hk]
theorem strLt_lst(a b:ByteArray):strLt a b=true↔a.data.toList<b.data.toList:=by
 unfold strLt;rw[bytesLess_eq,ByteArray.toList_eq,ByteArray.toList_eq];simp
theorem map_lt: ∀a b:List UInt8,(a.map fun b=>(b.toNat:Int))<(b.map fun b=>(b.toNat:Int))↔a<b
 | [],[]=>by simp
 | [],y::b=>by simp
 | x::a,[]=>by simp
 | x::a,y::b=>by
  rw[List.map_cons,List.map_cons,List.cons_lt_cons_iff,List.cons_lt_cons_iff,map_lt a b,UInt8.lt_iff_toNat_lt,← UInt8.toNat_inj]
  constructor<;>rintro(h|⟨h,h2⟩)<;>first|exact .inl (by omega)|exact .inr ⟨by omega,h2⟩
theorem byteL_inj{a b:ByteArray}(h:byteL a=byteL b):a=b:=by
 have h2:a.data.toList=b.data.toList:=by
  refine List.map_inj_right (f:=fun b:UInt8=>(b.toNat:Int)) (fun x y h=>?_) |>.1 h
  exact UInt8.toNat_inj.1 (by omega)
 cases a;cases b
 simpa using h2
theorem strLt_byteL(a b:ByteArray):strLt a b=decide (byteL a<byteL b):=by
 have h:=(strLt_lst a b).trans (map_lt a.data.toList b.data.toList).symm
 unfold byteL
 cases e:strLt a b
 ·symm;rw[decide_eq_false_iff_not];intro hh;rw[h.2 hh]at e;cases e
 ·symm;rw[decide_eq_true_iff];exact h.1 e
theorem rCompare_D(nm:ByteArray)(us:List Unt)(lt:List (List ByteArray))(s t:ByteArray)(hl:lt.length≤1000000)(hll: ∀l∈lt,l.length≤1000000)(hs:s.size≤1048576)(ht:t.size≤1048576):
  DCalls Tryz.prog 32 [.agg (ortRow nm us lt),dv (ls s),dv (ls t)] (dv (li (cmpK (keyE lt s) (keyE lt t)))):=by
 have hmax:maxLen=9223372036854775807:=rfl
 have hA:=rLetters_D nm us lt s hl hll hs
 have hB:=rLetters_D nm us lt t hl hll ht
 have la:=letters_len lt s
 have lb':=letters_len lt t
 have e:=or3_key (lettersE lt s).1 (lettersE lt s).2.1 (byteL s) (lettersE lt t).1 (lettersE lt t).2.1 (byteL t)
 rw[keyE,keyE]
 change _=cmpK [(lettersE lt s).1,(lettersE lt s).2.1,byteL s] [(lettersE lt t).1,(lettersE lt t).2.1,byteL t]at e
 change DCalls _ _ _ (dv (li (cmpK [(lettersE lt s).1,(lettersE lt s).2.1,byteL s] [(lettersE lt t).1,(lettersE lt t).2.1,byteL t])))
 rw[← e]
 clear e
 generalize lettersE lt s=r at hA la
 generalize lettersE lt t=q at hB lb'
 obtain⟨a,b,aa⟩:=r
 obtain⟨c,d,bb⟩:=q
 simp only at hA hB la lb' ⊢
 have h1:=rOrder_D a c (by omega) (by omega)
 have h2:=rOrder_D b d (by omega) (by omega)
 unfold or3
 rcases Bool.eq_false_or_eq_true (cmpL a c !=0)with t1|t1
 ·rw[if_pos (by simpa using t1)]
  refine kd (N:=47) (rs:= [.tmp 6]) Tryz.func32 ?_
  (repeat'(first|apply kA|apply kB|((first|refine kc (N:=47) ?_|apply kD|apply kE|refine kx hA ?_|refine kx hB ?_|refine kx h1 ?_|apply kF);simp +decide only[go_sem,ortRow,t1])|(apply kG;(simp +decide only[go_sem,ortRow,t1];rfl);all_goals(intro hcnd;try exact kz hcnd))))
 ·rw[if_neg (by simpa using t1)]
  rcases Bool.eq_false_or_eq_true (cmpL b d !=0)with t2|t2
  ·rw[if_pos (by simpa using t2)]
   refine kd (N:=47) (rs:= [.tmp 6]) Tryz.func32 ?_
   (repeat'(first|apply kA|apply kB|((first|refine kc (N:=47) ?_|apply kD|apply kE|refine kx hA ?_|refine kx hB ?_|refine kx h1 ?_|refine kx h2 ?_|apply kF);simp +decide only[go_sem,ortRow,t1,t2])|(apply kG;(simp +decide only[go_sem,ortRow,t1,t2];rfl);all_goals(intro hcnd;try exact kz hcnd))))
  ·rw[if_neg (by simpa using t2)]
   have x1:=strLt_byteL s t
   have x2:=strLt_byteL t s
   by_cases g1:byteL s<byteL t
   ·rw[decide_eq_true g1]at x1
    refine kd (N:=47) (rs:= [.tmp 6]) Tryz.func32 ?_
    (repeat'(first|apply kA|apply kB|((first|refine kc (N:=47) ?_|apply kD|apply kE|refine kx hA ?_|refine kx hB ?_|refine kx h1 ?_|refine kx h2 ?_|apply kF);simp +decide only[go_sem,ortRow,t1,t2,x1])|(apply kG;(simp +decide only[go_sem,ortRow,t1,t2,x1];rfl);all_goals(intro hcnd;try exact kz hcnd))))
    rw[cmpL,if_pos g1]
   ·rw[decide_eq_false g1]at x1
    by_cases g2:byteL t<byteL s
    ·rw[decide_eq_true g2]at x2
     have x3:(s==t)=false:=bytes_ne fun h=>by subst h;exact List.lt_irrefl _ g2
     refine kd (N:=47) (rs:= [.tmp 6]) Tryz.func32 ?_
     (repeat'(first|apply kA|apply kB|((first|refine kc (N:=47) ?_|apply kD|apply kE|refine kx hA ?_|refine kx hB ?_|refine kx h1 ?_|refine kx h2 ?_|apply kF);simp +decide only[go_sem,ortRow,t1,t2,x1,x2,x3])|(apply kG;(simp +decide only[go_sem,ortRow,t1,t2,x1,x2,x3];rfl);all_goals(intro hcnd;try exact kz hcnd))))
     rw[cmpL,if_neg g1,if_pos g2]
    ·rw[decide_eq_false g2]at x2
     have x3:(s==t)=true:=(bytes_eq s t).2 (byteL_inj (List.le_antisymm (List.not_lt.1 g2) (List.not_lt.1 g1)))
     refine kd (N:=47) (rs:= [.tmp 6]) Tryz.func32 ?_
     (repeat'(first|apply kA|apply kB|((first|refine kc (N:=47) ?_|apply kD|apply kE|refine kx hA ?_|refine kx hB ?_|refine kx h1 ?_|refine kx h2 ?_|apply kF);simp +decide only[go_sem,ortRow,t1,t2,x1,x2,x3])|(apply kG;(simp +decide only[go_sem,ortRow,t1,t2,x1,x2,x3];rfl);all_goals(intro hcnd;try exact kz hcnd))))
     rw[cmpL,if_neg g1,if_neg g2]
theorem rTextP_D(g:List Phon)(w:List Int)(hg: ∀p∈g,p.name.size≤1048576)(hgl:g.length≤1048576)(hw:w.length≤1048576):DCalls Tryz.prog 40 [.agg (invRow g),dv (.sl 1 (ints w))] (dv (ls (textP g w))):=by
 have hmax:maxLen=9223372036854775807:=rfl
 refine kd (N:=32) (rs:= [.tmp 4]) Tryz.func40 ?_
 (repeat(first|apply kA|apply kB|((first|refine kc (N:=32) ?_|refine kj (N:=32) kt49 ?_|apply kD|apply kE);simp +decide only[go_sem])))
 refine dw_rng0 w (fun k=>kn 32 [(1,dv (.sl 1 (ints w))),(2,.one (.bx 2 1 0 0)),(5,dv (ls (textP g (w.take k)))),(8,dv (li w.length)),(9,dv (li k))] (ml [(2,[invRow g])])) (by omega) (kM rfl (by simp +decide only[go_sem,List.take_zero,textP,List.foldl_nil,invRow,List.length_cons,List.length_nil,empty_mk]) (by simp +decide only[go_sem,invRow])) ?_ ?_
 ·intro k n he hk hmm htk hlt hwr
  have fa:=ints_at2 he
  have hs:=rIs_D g n
  have hst:textP g (w.take (k+1))=if segOk g n=true then textP g (w.take k)++nameAt g n else textP g (w.take k):=by rw[htk];exact textP_snoc g _ n
  have hle:=textP_le hg w k
  cases t1:segOk g n
  ·rw[t1]at hs hst
   rw[if_neg (by decide)]at hst
   (repeat'(first|apply kA|apply kB|((first|refine kc (N:=32) ?_|refine kj (N:=32) kt49 ?_|apply kD|apply kE|refine kx hs ?_|apply kF);simp +decide only[go_sem,hlt,hwr,fa,invRow])|(apply kG;(simp +decide only[go_sem,hlt,hwr,fa,invRow];rfl);all_goals(intro hcnd;try exact kz hcnd))))
   exact kM rfl (by simp +decide only[go_sem,hst]) (by simp +decide only[go_sem,invRow])
  ·rw[t1]at hs hst
   rw[if_pos rfl]at hst
   obtain⟨j,p,rfl,e1,e2⟩:=seg_name t1
   have hn:=nameAt_size hg ((j:Int)+1)
   have hj:=(List.getElem?_eq_some_iff.1 e1).1
   rw[e2]at hst hn
   have u1:IntKind.i64.wrap ((j:Int)+1 - 1)=(j:Int):=by rw[wrap_i64 (by omega) (by omega)];omega
   have u2:((textP g (w.take k)).size+p.name.size≤maxLen)=True:=by
    simp only[eq_iff_iff,iff_true]
    have:k*1048576≤1048576*1048576:=Nat.mul_le_mul_right _ (by omega)
    omega
   (repeat'(first|apply kA|apply kB|((first|refine kc (N:=32) ?_|refine kj (N:=32) kt49 ?_|apply kD|apply kE|refine kx hs ?_|apply kF);simp +decide only[go_sem,hlt,hwr,fa,invRow,u1,e1,u2,Phon.enc])|(apply kG;(simp +decide only[go_sem,hlt,hwr,fa,invRow,u1,e1,u2,Phon.enc];rfl);all_goals(intro hcnd;try exact kz hcnd))))
   exact kM rfl (by simp +decide only[go_sem,hst]) (by simp +decide only[go_sem,invRow])
 ·intro hlt
  rw[List.take_length]
  (repeat'(first|apply kA|apply kB|((first|refine kc (N:=32) ?_|refine kj (N:=32) kt49 ?_|apply kD|apply kE|apply kF);simp +decide only[go_sem,hlt])|(apply kG;(simp +decide only[go_sem,hlt];rfl);all_goals(intro hcnd;try exact kz hcnd))))
theorem starts_iff(w:List Int)(u:Unt):startsU w u=decide (u.segs <+: w):=rfl
theorem rStarts_D(w:List Int)(p:Nat)(u:Unt)(hp:p≤w.length)(hw:w.length≤1048576)(hu:u.segs.length≤1048576):DCalls Tryz.prog 74 [dv (.sl 1 (ints w)),dv (li p),.agg u.row] (dv (lb (startsU (w.drop p) u))):=by
 have hmax:maxLen=9223372036854775807:=rfl
 have u0:IntKind.i64.wrap ((w.length:Int) - (p:Int))=((w.length - p:Nat):Int):=by rw[wrap_i64 (by omega) (by omega)];omega
 rw[starts_iff]
 by_cases h0:w.length - p<u.segs.length
 ·have t1:decide (((w.length - p:Nat):Int)<(u.segs.length:Int))=true:=by simp;omega
  have e:decide (u.segs <+: w.drop p)=false:=by
   rw[decide_eq_false_iff_not]
   intro h
   have:=h.length_le
   rw[List.length_drop]at this
   omega
  rw[e]
  refine kd (N:=35) (rs:= [.tmp 6]) Tryz.func74 ?_
  (repeat'(first|apply kA|apply kB|((first|refine kc (N:=35) ?_|refine kj (N:=35) kt33 ?_|apply kD|apply kE|apply kF);simp +decide only[go_sem,Unt.row,u0,t1])|(apply kG;(simp +decide only[go_sem,Unt.row,u0,t1];rfl);all_goals(intro hcnd;try exact kz hcnd))))
 ·have t1:decide (((w.length - p:Nat):Int)<(u.segs.length:Int))=false:=by simp;omega
  refine kd (N:=35) (rs:= [.tmp 6]) Tryz.func74 ?_
  (repeat'(first|apply kA|apply kB|((first|refine kc (N:=35) ?_|refine kj (N:=35) kt33 ?_|apply kD|apply kE);simp +decide only[go_sem,Unt.row,u0,t1])|(apply kG;(simp +decide only[go_sem,Unt.row,u0,t1];rfl);all_goals(intro hcnd;try exact kz hcnd))))
  refine dw_rngI u.segs (fun k=>kn 35 [(0,dv (.sl 1 (ints w))),(1,dv (li p)),(5,.one (.bx 5 2 0 0)),(7,dv (li k))] (ml [(5,[u.row])])) (fun k=>u.segs.take k=(w.drop p).take k) (by omega) (kM rfl (by simp +decide only[go_sem,Unt.row,List.length_cons,List.length_nil]) (by simp +decide only[go_sem,Unt.row])) (by simp) ?_ ?_
  ·intro k x he hk hmm htk hlt hwr hi
   have hpk:p+k<w.length:=by omega
   have ew:w[p+k]? =some w[p+k]:=List.getElem?_eq_getElem hpk
   generalize w[p+k]=y at ew
   have fa:=ints_at2 he
   have fb:=ints_at2 ew
   have u1:IntKind.i64.wrap ((p:Int)+(k:Int))=((p+k:Nat):Int):=by rw[wrap_i64 (by omega) (by omega)];omega
   have ed:(w.drop p)[k]? =some y:=by rw[List.getElem?_drop];exact ew
   have htd:(w.drop p).take (k+1)=(w.drop p).take k++ [y]:=by rw[List.take_add_one,ed];rfl
   rcases Bool.eq_false_or_eq_true (y !=x)with t2|t2
   ·have e:decide (u.segs <+: w.drop p)=false:=by
     rw[decide_eq_false_iff_not]
     rintro⟨r,hr⟩
     rw[← hr,List.getElem?_append_left hk,he]at ed
     injection ed with ed
     rw[ed]at t2
     simp at t2
    rw[e]
    (repeat'(first|apply kA|apply kB|((first|refine kc (N:=35) ?_|refine kj (N:=35) kt33 ?_|apply kD|apply kE|apply kF);simp +decide only[go_sem,hlt,hwr,fa,fb,u1,t2,Unt.row])|(apply kG;(simp +decide only[go_sem,hlt,hwr,fa,fb,u1,t2,Unt.row];rfl);all_goals(intro hcnd;try exact kz hcnd))))
   ·have hxy:y=x:=by simpa using t2
    (repeat'(first|apply kA|apply kB|((first|refine kc (N:=35) ?_|refine kj (N:=35) kt33 ?_|apply kD|apply kE|apply kF);simp +decide only[go_sem,hlt,hwr,fa,fb,u1,t2,Unt.row])|(apply kG;(simp +decide only[go_sem,hlt,hwr,fa,fb,u1,t2,Unt.row];rfl);all_goals(intro hcnd;try exact kz hcnd))))
    exact⟨by rw[htk,htd,hi,hxy],kM rfl (by simp +decide only[go_sem,hwr]) (by simp +decide only[go_sem,Unt.row])⟩
  ·intro hlt hi
   rw[List.take_length]at hi
   have e:decide (u.segs <+: w.drop p)=true:=by
    rw[decide_eq_true_iff,hi]
    exact List.take_prefix _ _
   rw[e]
   (repeat'(first|apply kA|apply kB|((first|refine kc (N:=35) ?_|refine kj (N:=35) kt33 ?_|apply kD|apply kE|apply kF);simp +decide only[go_sem,hlt,Unt.row])|(apply kG;(simp +decide only[go_sem,hlt,Unt.row];rfl);all_goals(intro hcnd;try exact kz hcnd))))
theorem rSpell_D(nm:ByteArray)(us:List Unt)(lt:List (List ByteArray))(w:List Int)(ho:OkU us)(hl:us.length≤1000000)(hg: ∀u∈us,u.graph.size≤1048576)(hsg: ∀u∈us,u.segs.length≤1048576):
  DCalls Tryz.prog 39 [.agg (ortRow nm us lt),dv (.sl 1 (ints w))] (.tup [dv (ls (spellE us w).1),dv (li (spellE us w).2.1),dv (li (spellE us w).2.2)]):=by
 have hmax:maxLen=9223372036854775807:=rfl
 unfold spellE
 by_cases w0:w.length=0
 ·have t1:((w.length:Int)==0)=true:=by rw[beq_iff_eq];omega
  rw[if_pos w0]
  refine kd (N:=79) (rs:= [.tmp 4,.tmp 5,.tmp 6]) Tryz.func39 ?_
  (repeat'(first|apply kA|apply kB|((first|refine kc (N:=79) ?_|refine kj (N:=79) kt50 ?_|apply kD|apply kE|apply kF);simp +decide only[go_sem,t1])|(apply kG;(simp +decide only[go_sem,t1];rfl);all_goals(intro hcnd;try exact kz hcnd))|((first|apply kH|apply kI)<;>(intro hcnd;simp +decide only[go_sem,hcnd,t1]))))
  rfl
 rw[if_neg w0]
 have t1:((w.length:Int)==0)=false:=by rw[beq_eq_false_iff_ne];omega
 by_cases w1:24<w.length
 ·have t2:decide ((24:Int)<(w.length:Int))=true:=by simp;omega
  rw[if_pos w1]
  refine kd (N:=79) (rs:= [.tmp 4,.tmp 5,.tmp 6]) Tryz.func39 ?_
  (repeat'(first|apply kA|apply kB|((first|refine kc (N:=79) ?_|refine kj (N:=79) kt50 ?_|apply kD|apply kE|apply kF);simp +decide only[go_sem,t1,t2])|(apply kG;(simp +decide only[go_sem,t1,t2];rfl);all_goals(intro hcnd;try exact kz hcnd))|((first|apply kH|apply kI)<;>(intro hcnd;simp +decide only[go_sem,hcnd,t1,t2]))))
  rfl
 rw[if_neg w1]
 have t2:decide ((24:Int)<(w.length:Int))=false:=by simp;omega
 refine kd (N:=79) (rs:= [.tmp 4,.tmp 5,.tmp 6]) Tryz.func39 ?_
 (repeat'(first|apply kA|apply kB|((first|refine kc (N:=79) ?_|refine kj (N:=79) kt50 ?_|apply kD|apply kE);simp +decide only[go_sem,t1,t2])|(apply kG;(simp +decide only[go_sem,t1,t2];rfl);all_goals(intro hcnd;try exact kz hcnd))|((first|apply kH|apply kI)<;>(intro hcnd;simp +decide only[go_sem,hcnd,t1,t2]))))
 refine dw_loop_fam (fun y:Nat×ByteArray=>kn 79 [(1,dv (.sl 1 (ints w))),(2,.one (.bx 2 3 0 0)),(7,dv (ls y.2)),(8,dv (li y.1))] (ml [(2,[ortRow nm us lt])]))
  (fun y=>y.1≤w.length∧y.2.size≤y.1*1048576∧spellF us w w.length 0 ByteArray.empty=spellF us w (w.length - y.1) y.1 y.2) (fun y=>w.length - y.1) (0,ByteArray.empty) (kM rfl (by simp +decide only[go_sem,ortRow,List.length_cons,List.length_nil,empty_mk]) (by simp +decide only[go_sem,ortRow])) ⟨by simp,by simp,rfl⟩ ?_
 rintro⟨p,s⟩ ⟨h1,h2,h3⟩
 simp only at h1 h2 h3 ⊢
 rw[h3]
 by_cases ha:p<w.length
 ·have t3:decide ((p:Int)<(w.length:Int))=true:=by simp;omega
  obtain⟨m,hm⟩: ∃m,w.length - p=m+1:=⟨w.length - p - 1,by omega⟩
  (repeat'(first|apply kA|apply kB|((first|refine kc (N:=79) ?_|refine kj (N:=79) kt50 ?_|apply kD|apply kE);simp +decide only[go_sem,t3,ortRow])|(apply kG;(simp +decide only[go_sem,t3,ortRow];rfl);all_goals(intro hcnd;try exact kz hcnd))|((first|apply kH|apply kI)<;>(intro hcnd;simp +decide only[go_sem,hcnd,t3,ortRow]))))
  refine dw_rng0 us (fun i=>kn 79 [(1,dv (.sl 1 (ints w))),(2,.one (.bx 2 3 0 0)),(7,dv (ls s)),(8,dv (li p)),(9,dv (li (bestU us (w.drop p) i))),(10,dv (li i))] (ml [(2,[ortRow nm us lt])])) (by omega) (kM rfl (by simp +decide only[go_sem,bestU,ortRow]) (by simp +decide only[go_sem,ortRow])) ?_ ?_
  ·intro i u he hk hmm htk hlt hw
   have hS:=rStarts_D w p u h1 (by omega) (hsg u hmm)
   have hb:=bestU_succ (w:=w.drop p) he
   have hr:=bestU_rng us (w.drop p) i (by omega)
   generalize bestU us (w.drop p) i=b at hb hr ⊢
   cases t4:startsU (w.drop p) u
   ·rw[t4]at hS hb
    rw[if_neg (by simp)]at hb
    (repeat'(first|apply kA|apply kB|((first|refine kc (N:=79) ?_|refine kj (N:=79) kt50 ?_|apply kD|apply kE|refine kx hS ?_|apply kF);simp +decide only[go_sem,hlt,hw,he,ortRow,Unt.enc,Unt.row])|(apply kG;(simp +decide only[go_sem,hlt,hw,he,ortRow,Unt.enc,Unt.row];rfl);all_goals(intro hcnd;try exact kz hcnd))|((first|apply kH|apply kI)<;>(intro hcnd;simp +decide only[go_sem,hcnd,hlt,hw,he,ortRow,Unt.enc,Unt.row]))))
    exact kM rfl (by simp +decide only[go_sem,hb]) (by simp +decide only[go_sem,ortRow])
   ·rw[t4]at hS hb
    by_cases t5:b<0
    ·have t6:(b<0)=True:=by simpa using t5
     rw[if_pos (by simp[t5])]at hb
     (repeat'(first|apply kA|apply kB|((first|refine kc (N:=79) ?_|refine kj (N:=79) kt50 ?_|apply kD|apply kE|refine kx hS ?_|apply kF);simp +decide only[go_sem,hlt,hw,he,ortRow,Unt.enc,Unt.row,t6])|(apply kG;(simp +decide only[go_sem,hlt,hw,he,ortRow,Unt.enc,Unt.row,t6];rfl);all_goals(intro hcnd;try exact kz hcnd))|((first|apply kH|apply kI)<;>(intro hcnd;simp +decide only[go_sem,hcnd,hlt,hw,he,ortRow,Unt.enc,Unt.row,t6]))))
     exact kM rfl (by simp +decide only[go_sem,hb]) (by simp +decide only[go_sem,ortRow])
    ·have t6:(b<0)=False:=by simpa using t5
     obtain⟨j,rfl⟩: ∃j:Nat,b=j:=⟨b.toNat,by omega⟩
     have hj:j<us.length:=by omega
     have ej:us[j]? =some us[j]:=List.getElem?_eq_getElem hj
     generalize us[j]=v at ej
     have ev:unitAt us (j:Int)=v:=by unfold unitAt;simp[ej]
     rw[ev]at hb
     by_cases t7:v.segs.length<u.segs.length
     ·have t8:((v.segs.length:Int)<(u.segs.length:Int))=True:=by simp;omega
      rw[if_pos (by simp[t7])]at hb
      (repeat'(first|apply kA|apply kB|((first|refine kc (N:=79) ?_|refine kj (N:=79) kt50 ?_|apply kD|apply kE|refine kx hS ?_|apply kF);simp +decide only[go_sem,hlt,hw,he,ej,ortRow,Unt.enc,Unt.row,t6,t8])|(apply kG;(simp +decide only[go_sem,hlt,hw,he,ej,ortRow,Unt.enc,Unt.row,t6,t8];rfl);all_goals(intro hcnd;try exact kz hcnd))|((first|apply kH|apply kI)<;>(intro hcnd;simp +decide only[go_sem,hcnd,hlt,hw,he,ej,ortRow,Unt.enc,Unt.row,t6,t8]))))
      exact kM rfl (by simp +decide only[go_sem,hb]) (by simp +decide only[go_sem,ortRow])
     ·have t8:((v.segs.length:Int)<(u.segs.length:Int))=False:=by simp;omega
      rw[if_neg (by simp[t7])]at hb
      (repeat'(first|apply kA|apply kB|((first|refine kc (N:=79) ?_|refine kj (N:=79) kt50 ?_|apply kD|apply kE|refine kx hS ?_|apply kF);simp +decide only[go_sem,hlt,hw,he,ej,ortRow,Unt.enc,Unt.row,t6,t8])|(apply kG;(simp +decide only[go_sem,hlt,hw,he,ej,ortRow,Unt.enc,Unt.row,t6,t8];rfl);all_goals(intro hcnd;try exact kz hcnd))|((first|apply kH|apply kI)<;>(intro hcnd;simp +decide only[go_sem,hcnd,hlt,hw,he,ej,ortRow,Unt.enc,Unt.row,t6,t8]))))
      exact kM rfl (by simp +decide only[go_sem,hb]) (by simp +decide only[go_sem,ortRow])
  ·intro hlt
   rw[hm,spellF,if_neg (by omega)]
   by_cases hb:bestU us (w.drop p) us.length<0
   ·have t6:(bestU us (w.drop p) us.length<0)=True:=by simpa using hb
    rw[if_pos hb]
    (repeat'(first|apply kA|apply kB|((first|refine kc (N:=79) ?_|refine kj (N:=79) kt50 ?_|apply kD|apply kE|apply kF);simp +decide only[go_sem,hlt,t6,ortRow])|(apply kG;(simp +decide only[go_sem,hlt,t6,ortRow];rfl);all_goals(intro hcnd;try exact kz hcnd))|((first|apply kH|apply kI)<;>(intro hcnd;simp +decide only[go_sem,hcnd,hlt,t6,ortRow]))))
    rfl
   ·have t6:(bestU us (w.drop p) us.length<0)=False:=by simpa using hb
    rw[if_neg hb]
    obtain⟨u,e1,e2,e3,e4⟩:=unit_some hb
    rw[e2]
    have hz:u.segs.length≠0:=by simpa using ho.segs u e3
    have hle:u.segs.length≤w.length - p:=by have:=e4.length_le;rwa [List.length_drop]at this
    have hgs:=hg u e3
    obtain⟨j,hj⟩: ∃j:Nat,bestU us (w.drop p) us.length=j:=⟨(bestU us (w.drop p) us.length).toNat,by omega⟩
    rw[hj]at e1 t6
    have e1':us[j]? =some u:=by simpa using e1
    have u1:IntKind.i64.wrap ((p:Int)+(u.segs.length:Int))=((p+u.segs.length:Nat):Int):=by rw[wrap_i64 (by omega) (by omega)];omega
    have u2:(s.size+u.graph.size≤maxLen)=True:=by
     simp only[eq_iff_iff,iff_true]
     have:p*1048576≤24*1048576:=Nat.mul_le_mul_right _ (by omega)
     omega
    (repeat'(first|apply kA|apply kB|((first|refine kc (N:=79) ?_|refine kj (N:=79) kt50 ?_|apply kD|apply kE);simp +decide only[go_sem,hlt,hj,t6,e1',ortRow,Unt.enc,u1,u2])|(apply kG;(simp +decide only[go_sem,hlt,hj,t6,e1',ortRow,Unt.enc,u1,u2];rfl);all_goals(intro hcnd;try exact kz hcnd))|((first|apply kH|apply kI)<;>(intro hcnd;simp +decide only[go_sem,hcnd,hlt,hj,t6,e1',ortRow,Unt.enc,u1,u2]))))
    refine⟨(p+u.segs.length,s++u.graph),⟨by simp only;omega,?_,?_⟩,by simp only;omega,kM rfl (by simp +decide only[go_sem,u1]) (by simp +decide only[go_sem,ortRow])⟩
    ·simp only[ByteArray.size_append]
     have:(p+1)*1048576≤(p+u.segs.length)*1048576:=Nat.mul_le_mul_right _ (by omega)
     rw[Nat.succ_mul]at this
     omega
    ·exact spellF_fuel ho w _ _ _ _ (by omega) (by omega)
 ·have t3:decide ((p:Int)<(w.length:Int))=false:=by simp;omega
  have:w.length - p=0:=by omega
  rw[this,spellF]
  (repeat'(first|apply kA|apply kB|((first|refine kc (N:=79) ?_|refine kj (N:=79) kt50 ?_|apply kD|apply kE|apply kF);simp +decide only[go_sem,t3])|(apply kG;(simp +decide only[go_sem,t3];rfl);all_goals(intro hcnd;try exact kz hcnd))|((first|apply kH|apply kI)<;>(intro hcnd;simp +decide only[go_sem,hcnd,t3]))))
end Go.Proofs.YtehdkccjaeckhaaGreatDoor
namespace Go.Proofs.YtehdkccjaeckhaaGreatDoor
open Go.Dl Go.RowKit Go.Lib
attribute [local irreducible] DW DCalls ECalls wk IW
theorem app_bytes(a b:List UInt8):(⟨a.toArray⟩:ByteArray)++⟨b.toArray⟩=⟨(a++b).toArray⟩:=by
 apply ByteArray.ext
 simp
theorem one_byte(c:UInt8)(a:List UInt8):(⟨#[c]⟩:ByteArray)++⟨a.toArray⟩=⟨(c::a).toArray⟩:=app_bytes [c] a
theorem natAbs_tdiv(k:Int):(k.tdiv 10).natAbs=k.natAbs / 10:=by rw[Int.natAbs_tdiv];rfl
theorem rTextN_D(n:Int)(h0: -9223372036854775808≤n)(h1:n≤9223372036854775807):DCalls Tryz.prog 45 [dv (li n)] (dv (ls (numB n))):=by
 have hmax:maxLen=9223372036854775807:=rfl
 refine kd (N:=31) (rs:= [.tmp 2]) Tryz.func45 ?_
 cases t0:n==0
 rotate_left
 ·have:n=0:=by simpa using t0
  subst this
  (repeat'(first|apply kA|apply kB|((first|refine kc (N:=31) ?_|apply kD|apply kE|apply kF);simp +decide only[go_sem])|(apply kG;(simp +decide only[go_sem];rfl);all_goals(intro hcnd;try exact kz hcnd))))
  rw[show numB 0=⟨#[48]⟩ by rw[numB,itoa_pos (by decide),dd_small (by decide)];rfl]
 have hn:n≠0:=by simpa using t0
 (repeat'(first|apply kA|apply kB|((first|refine kc (N:=31) ?_|apply kD|apply kE);simp +decide only[go_sem,t0])|(apply kG;(simp +decide only[go_sem,t0];rfl);all_goals(intro hcnd;try exact kz hcnd))))
 refine dw_loop_fam (fun p:Int×List UInt8=>kn 31 [(0,dv (li n)),(3,dv (ls ⟨p.2.toArray⟩)),(4,dv (li p.1))] noMem) (fun p=>(-9223372036854775808≤p.1∧p.1≤9223372036854775807)∧(if p.1=0 then p.2=decDigits n.natAbs else decDigits p.1.natAbs++p.2=decDigits n.natAbs)) (fun p=>p.1.natAbs) (n,[]) (kL rfl (by simp +decide only[go_sem]) (by simp[noMem])) ⟨⟨h0,h1⟩,by rw[if_neg hn,List.append_nil]⟩ ?_
 rintro⟨k,acc⟩ ⟨⟨hk0,hk1⟩,hacc⟩
 simp only at hk0 hk1 hacc
 have hal:acc.length≤4000000000000000000:=by
  have h2:=dd_len n.natAbs
  have h3:acc.length≤(decDigits n.natAbs).length:=by
   split at hacc
   ·rw[hacc];exact Nat.le_refl _
   ·rw[← hacc];simp
  omega
 have r1: ∀c:UInt8,(#[c].size+acc.toArray.size≤maxLen)=True:=fun c=>eq_true (by simp;omega)
 cases t1:k !=0
 ·have hk:k=0:=by simpa using t1
  rw[if_pos hk]at hacc
  cases t2:decide (n<0)
  ·(repeat'(first|apply kA|apply kB|((first|refine kc (N:=31) ?_|apply kD|apply kE|apply kF);simp +decide only[go_sem,t1,t2])|(apply kG;(simp +decide only[go_sem,t1,t2];rfl);all_goals(intro hcnd;try exact kz hcnd))))
   rw[numB,itoa_pos (by simpa using t2),hacc]
  ·(repeat'(first|apply kA|apply kB|((first|refine kc (N:=31) ?_|apply kD|apply kE|apply kF);simp +decide only[go_sem,t1,t2,r1,one_byte])|(apply kG;(simp +decide only[go_sem,t1,t2,r1,one_byte];rfl);all_goals(intro hcnd;try exact kz hcnd))))
   rw[numB,itoa_neg (by simpa using t2),← hacc]
 ·have hk:k≠0:=by simpa using t1
  rw[if_neg hk,dd_cons (by omega)]at hacc
  have hq:=natAbs_tdiv k
  have hw:IntKind.i64.wrap (k.tdiv 10)=k.tdiv 10:=wrap_i64 (by omega) (by omega)
  have hstep:(if k.tdiv 10=0 then UInt8.ofNat (48+k.natAbs % 10)::acc=decDigits n.natAbs else decDigits (k.tdiv 10).natAbs++(UInt8.ofNat (48+k.natAbs % 10)::acc)=decDigits n.natAbs):=by
   split
   ·rename_i h;rw[if_pos (by omega)]at hacc;simpa using hacc
   ·rename_i h;rw[if_neg (by omega)]at hacc;rw[hq];simpa using hacc
  have hd:(k.tmod 10).natAbs=k.natAbs % 10:=by rw[Int.natAbs_tmod];rfl
  have h8:IntKind.u8.wrap (48+((k.natAbs % 10:Nat):Int))=((48+k.natAbs % 10:Nat):Int):=by
   show(48+((k.natAbs % 10:Nat):Int)) % 256=_
   omega
  have hw48:IntKind.i64.wrap (48+((k.natAbs % 10:Nat):Int))=48+((k.natAbs % 10:Nat):Int):=wrap_i64 (by omega) (by omega)
  cases t2:decide (k.tmod 10<0)
  ·have e1:k.tmod 10=((k.natAbs % 10:Nat):Int):=by simp at t2;omega
   have hz:decide (((k.natAbs % 10:Nat):Int)<0)=false:=by simp;omega
   (repeat'(first|apply kA|apply kB|((first|refine kc (N:=31) ?_|apply kD|apply kE);simp +decide only[go_sem,t1,hz,e1,hw,hw48,h8,r1,one_byte,Int.toNat_natCast])|(apply kG;(simp +decide only[go_sem,t1,hz,e1,hw,hw48,h8,r1,one_byte,Int.toNat_natCast];rfl);all_goals(intro hcnd;try exact kz hcnd))))
   exact⟨(k.tdiv 10,UInt8.ofNat (48+k.natAbs % 10)::acc),⟨⟨by simp only;omega,by simp only;omega⟩,hstep⟩,by simp only;omega,kL rfl (by simp +decide only[go_sem]) (by simp[noMem])⟩
  ·have e1:IntKind.i64.wrap (0 - k.tmod 10)=((k.natAbs % 10:Nat):Int):=by simp at t2;rw[wrap_i64 (by omega) (by omega)];omega
   (repeat'(first|apply kA|apply kB|((first|refine kc (N:=31) ?_|apply kD|apply kE);simp +decide only[go_sem,t1,t2,e1,hw,hw48,h8,r1,one_byte,Int.toNat_natCast])|(apply kG;(simp +decide only[go_sem,t1,t2,e1,hw,hw48,h8,r1,one_byte,Int.toNat_natCast];rfl);all_goals(intro hcnd;try exact kz hcnd))))
   exact⟨(k.tdiv 10,UInt8.ofNat (48+k.natAbs % 10)::acc),⟨⟨by simp only;omega,by simp only;omega⟩,hstep⟩,by simp only;omega,kL rfl (by simp +decide only[go_sem]) (by simp[noMem])⟩
end Go.Proofs.YtehdkccjaeckhaaGreatDoor
namespace Go.Proofs.YtehdkccjaeckhaaGreatDoor
open Go.Dl
open S (usort)
attribute [local irreducible] DW DCalls ECalls wk IW
theorem wayF_len(l:List Ent): ∀(n:Nat) (id:Int),(wayF l n id).length≤n
 | 0,_=>by simp[wayF]
 | n+1,id=>by
  simp only[wayF]
  split
  ·simp
  ·simp only[List.length_cons]
   split
   ·simp
   ·have:=wayF_len l n (getE l id).1.main;omega
theorem rMain_D(l:List Ent)(id:Int)(hl:l.length≤999999):DCalls Tryz.prog 90 [dv (.sl 8 (l.map Ent.enc)),dv (li id)] (dv (li (mainE l id))):=by
 have hmax:maxLen=9223372036854775807:=rfl
 have hW:=rWay_D l id hl
 have hlen:=wayF_len l (l.length+1) id
 have hm:mainE l id=((wayI l id).getLast?).getD 0:=by unfold mainE wayI;rw[List.getLast?_map]
 have hlw:(wayI l id).length≤l.length+1:=by unfold wayI wayE;simpa using hlen
 rw[hm]
 generalize wayI l id=v at hW hlw
 by_cases h0:v.length=0
 ·have t1:((v.length:Int)==0)=true:=by rw[beq_iff_eq];omega
  have:v= []:=by simpa using h0
  refine kd (N:=18) (rs:= [.tmp 4]) Tryz.func90 ?_
  (repeat'(first|apply kA|apply kB|((first|refine kc (N:=18) ?_|apply kD|apply kE|refine kx hW ?_|apply kF);simp +decide only[go_sem,t1])|(apply kG;(simp +decide only[go_sem,t1];rfl);all_goals(intro hcnd;try exact kz hcnd))))
  simp[this]
 ·have t1:((v.length:Int)==0)=false:=by rw[beq_eq_false_iff_ne];omega
  have w1:IntKind.i64.wrap ((v.length:Int) - 1)=((v.length - 1:Nat):Int):=by rw[wrap_i64 (by omega) (by omega)];omega
  have e1:v[v.length - 1]? =some (v[v.length - 1]'(by omega)):=List.getElem?_eq_getElem (by omega)
  have e2:=ints_at2 e1
  refine kd (N:=18) (rs:= [.tmp 4]) Tryz.func90 ?_
  (repeat'(first|apply kA|apply kB|((first|refine kc (N:=18) ?_|apply kD|apply kE|refine kx hW ?_|apply kF);simp +decide only[go_sem,t1,w1,e2])|(apply kG;(simp +decide only[go_sem,t1,w1,e2];rfl);all_goals(intro hcnd;try exact kz hcnd))))
  rw[List.getLast?_eq_getElem?,e1]
  rfl
theorem rAll_D(l:List Ent)(id:Int)(hl:l.length≤999999):DCalls Tryz.prog 55 [dv (.sl 8 (l.map Ent.enc)),dv (li id)] (dv (.sl 1 (ints (allE l id)))):=by
 have hmax:maxLen=9223372036854775807:=rfl
 refine kd (N:=41) (rs:= [.tmp 4]) Tryz.func55 ?_
 (repeat'(first|apply kA|apply kB|((first|refine kc (N:=41) ?_|apply kD|apply kE);simp +decide only[go_sem])|(apply kG;(simp +decide only[go_sem];rfl);all_goals(intro hcnd;try exact kz hcnd))|((first|apply kH|apply kI)<;>(intro hcnd;simp +decide only[go_sem,hcnd]))))
 refine dw_ownX (xs:= []) 5 5 1 (by simp +decide only[go_sem]) ?_
 refine dw_rng0 l (fun k=>kn 41 [(0,dv (.sl 8 (l.map Ent.enc))),(1,dv (li id)),(5,.one (.own 5 1 (ints (idsOf (l.take k) (varP l id))))),(6,dv (li k))] noMem) (by omega) (kL rfl (by simp +decide only[go_sem,List.take_zero,idsOf_nil,List.map_nil]) (by simp[noMem])) ?_ ?_
 ·intro k e he hk hm htk hlt hw
  have hM:=rMain_D l e.id hl
  have hi:=idsOf_len (l.take k) (varP l id)
  have r1:(((idsOf (l.take k) (varP l id)).length+1)*8≤140737488355328)=True:=eq_true (by rw[List.length_take]at hi;omega)
  have hst:idsOf (l.take (k+1)) (varP l id)=idsOf (l.take k) (varP l id)++if varP l id e=true then [e.id]else []:=by rw[htk,idsOf_snoc]
  unfold varP at hst
  cases t1:e.id==id
  ·have t1':(e.id !=id)=true:=by simp[bne,t1]
   cases t2:mainE l e.id==id
   ·rw[t1,t2,if_neg (by decide),List.append_nil]at hst
    (repeat'(first|apply kA|apply kB|((first|refine kc (N:=41) ?_|apply kD|apply kE|refine kx hM ?_|apply kF);simp +decide only[go_sem,hlt,hw,he,t1',t2,r1,Ent.enc])|(apply kG;(simp +decide only[go_sem,hlt,hw,he,t1',t2,r1,Ent.enc];rfl);all_goals(intro hcnd;try exact kz hcnd))|((first|apply kH|apply kI)<;>(intro hcnd;simp +decide only[go_sem,hcnd,hlt,hw,he,t1',t2,r1,Ent.enc]))))
    exact kL rfl (by simp +decide only[go_sem,hst]) (by simp[noMem])
   ·rw[t1,t2,if_pos (by decide)]at hst
    have hst2:ints (idsOf (l.take (k+1)) (varP l id))=ints (idsOf (l.take k) (varP l id))++ [[li e.id]]:=by unfold varP;rw[hst];simp
    (repeat'(first|apply kA|apply kB|((first|refine kc (N:=41) ?_|apply kD|apply kE|refine kx hM ?_|apply kF);simp +decide only[go_sem,hlt,hw,he,t1',t2,r1,Ent.enc])|(apply kG;(simp +decide only[go_sem,hlt,hw,he,t1',t2,r1,Ent.enc];rfl);all_goals(intro hcnd;try exact kz hcnd))|((first|apply kH|apply kI)<;>(intro hcnd;simp +decide only[go_sem,hcnd,hlt,hw,he,t1',t2,r1,Ent.enc]))))
    exact kL rfl (by simp +decide only[go_sem,hst2]) (by simp[noMem])
  ·have t1':(e.id !=id)=false:=by simp[bne,t1]
   rw[t1,if_neg (by simp),List.append_nil]at hst
   (repeat'(first|apply kA|apply kB|((first|refine kc (N:=41) ?_|apply kD|apply kE|apply kF);simp +decide only[go_sem,hlt,hw,he,t1',r1,Ent.enc])|(apply kG;(simp +decide only[go_sem,hlt,hw,he,t1',r1,Ent.enc];rfl);all_goals(intro hcnd;try exact kz hcnd))|((first|apply kH|apply kI)<;>(intro hcnd;simp +decide only[go_sem,hcnd,hlt,hw,he,t1',r1,Ent.enc]))))
   exact kL rfl (by simp +decide only[go_sem,hst]) (by simp[noMem])
 ·intro hlt
  rw[List.take_length]
  (repeat'(first|apply kA|apply kB|((first|refine kc (N:=41) ?_|apply kD|apply kE);simp +decide only[go_sem,hlt])|(apply kG;(simp +decide only[go_sem,hlt];rfl);all_goals(intro hcnd;try exact kz hcnd))|((first|apply kH|apply kI)<;>(intro hcnd;simp +decide only[go_sem,hcnd,hlt]))))
  refine dw_slot 4 _ (DLe.own_ _ _ _) ?_
  apply kF;simp +decide only[go_sem]
  rfl
theorem rSpelled_D(x:LX){d:Dic}(hd:OkD d)(w:List Int)(hw:w.length≤1000):DCalls Tryz.prog 15 [.agg (lngRow x d),dv (.sl 1 (ints w))] (dv (ls (d.sp w))):=by
 have hmax:maxLen=9223372036854775807:=rfl
 have hS:=rSpell_D x.nm d.units d.letters w hd.units (by have:=hd.ulen;omega) (fun u hu=>by have:=hd.gsz u hu;omega) (fun u hu=>by have:=hd.usg u hu;omega)
 have hT:=rTextP_D d.inv w (fun p hp=>by have:=hd.nsz p hp;omega) hd.ilen (by omega)
 unfold Dic.sp spelledE
 simp only[ortRow]at hS
 simp only[invRow]at hT
 generalize spellE d.units w=r at hS ⊢
 obtain⟨a,b,c⟩:=r
 simp only at hS ⊢
 cases t1:c !=0
 ·have: ¬c≠0:=by simpa using t1
  rw[if_neg this]
  refine kd (N:=23) (rs:= [.tmp 4]) Tryz.func15 ?_
  (repeat'(first|apply kA|apply kB|((first|refine kc (N:=23) ?_|apply kD|apply kE|refine kx hS ?_|apply kF);simp +decide only[go_sem,lngRow,t1])|(apply kG;(simp +decide only[go_sem,lngRow,t1];rfl);all_goals(intro hcnd;try exact kz hcnd))))
 ·have:c≠0:=by simpa using t1
  rw[if_pos this]
  refine kd (N:=23) (rs:= [.tmp 4]) Tryz.func15 ?_
  (repeat'(first|apply kA|apply kB|((first|refine kc (N:=23) ?_|apply kD|apply kE|refine kx hS ?_|refine kx hT ?_|apply kF);simp +decide only[go_sem,lngRow,t1])|(apply kG;(simp +decide only[go_sem,lngRow,t1];rfl);all_goals(intro hcnd;try exact kz hcnd))))
theorem rHead56_D(x:LX){d:Dic}(hd:OkD d)(id:Int):DCalls Tryz.prog 17 [.agg (lngRow x d),dv (li id)] (dv (ls (d.head id))):=by
 have hmax:maxLen=9223372036854775807:=rfl
 have hf:=hd.few
 have hG:=rGet_D d.lex id (by omega)
 have hS:=rSpelled_D x hd (getE d.lex id).1.form (by have:=get_form hd (id:=id);omega)
 have hH:=rHom_D d.lex id (by omega) (ok_form hd)
 have h3:=hom_rng (l:=d.lex) id
 have hN:=rTextN_D (homE d.lex id) (by omega) (by omega)
 have hnl:=numB_le h3.1 (by omega)
 have hsl:=sp_le hd (getE d.lex id).1.form
 have h2:=get_form hd (id:=id)
 have hsl2:(getE d.lex id).1.form.length*32≤3*32:=Nat.mul_le_mul_right _ h2
 simp only[lngRow]at hS
 unfold Dic.head
 generalize homE d.lex id=n at hH hN hnl h3 ⊢
 generalize getE d.lex id=p at hG hS hsl hsl2 ⊢
 obtain⟨e,b⟩:=p
 simp only[Ent.row]at hG hS hsl hsl2 ⊢
 generalize d.sp e.form=s at hS hsl ⊢
 cases b
 ·rw[if_pos rfl]
  refine kd (N:=35) (rs:= [.tmp 4]) Tryz.func17 ?_
  (repeat'(first|apply kA|apply kB|((first|refine kc (N:=35) ?_|apply kD|apply kE|refine kx hG ?_|apply kF);simp +decide only[go_sem,lngRow])|(apply kG;(simp +decide only[go_sem,lngRow];rfl);all_goals(intro hcnd;try exact kz hcnd))))
  rfl
 rw[if_neg (by decide)]
 have z1:(s.size+ #[(32:UInt8)].size≤maxLen)=True:=eq_true (by rw[show #[(32:UInt8)].size=1 from rfl];omega)
 have z2:(s.size+ #[(32:UInt8)].size+(numB n).size≤maxLen)=True:=eq_true (by rw[show #[(32:UInt8)].size=1 from rfl];omega)
 cases t1:n==0
 ·rw[if_pos (by have:n≠0:=(by simpa using t1);omega)]
  refine kd (N:=35) (rs:= [.tmp 4]) Tryz.func17 ?_
  (repeat'(first|apply kA|apply kB|((first|refine kc (N:=35) ?_|apply kD|apply kE|refine kx hG ?_|refine kx hS ?_|refine kx hH ?_|refine kx hN ?_|apply kF);simp +decide only[go_sem,lngRow,t1,z1,z2])|(apply kG;(simp +decide only[go_sem,lngRow,t1,z1,z2];rfl);all_goals(intro hcnd;try exact kz hcnd))))
  rw[ByteArray.append_assoc]
  rfl
 ·rw[if_neg (by have:n=0:=(by simpa using t1);omega)]
  refine kd (N:=35) (rs:= [.tmp 4]) Tryz.func17 ?_
  (repeat'(first|apply kA|apply kB|((first|refine kc (N:=35) ?_|apply kD|apply kE|refine kx hG ?_|refine kx hS ?_|refine kx hH ?_|apply kF);simp +decide only[go_sem,lngRow,t1])|(apply kG;(simp +decide only[go_sem,lngRow,t1];rfl);all_goals(intro hcnd;try exact kz hcnd))))
theorem joinR_snoc(l:List ByteArray)(s:ByteArray):joinR (l++ [s])=if l.length=0 then s else joinR l++comma++s:=by
 cases l with
 | nil=>rfl
 | cons x l=>simp[joinR,List.foldl_append]
theorem rJoined_D(l:List ByteArray)(hl:l.length≤1000)(hs: ∀s∈l,s.size≤100000):DCalls Tryz.prog 52 [dv (.sl 1 (strs l))] (dv (ls (joinR l))):=by
 have hmax:maxLen=9223372036854775807:=rfl
 refine kd (N:=22) (rs:= [.tmp 2]) Tryz.func52 ?_
 (repeat(first|apply kA|apply kB|((first|refine kc (N:=22) ?_|apply kD|apply kE);simp +decide only[go_sem])))
 refine dw_rng0 l (fun k=>kn 22 [(0,dv (.sl 1 (strs l))),(3,dv (ls (joinR (l.take k)))),(4,dv (li k))] noMem) (by omega) (kL rfl (by simp +decide only[go_sem,List.take_zero,joinR,empty_mk]) (by simp[noMem])) ?_ ?_
 ·intro k s he hk hm htk hlt hw
  have hx:=strs_at he
  have hst:joinR (l.take (k+1))=if(l.take k).length=0 then s else joinR (l.take k)++comma++s:=by rw[htk];exact joinR_snoc _ _
  have hkl:(l.take k).length=k:=by rw[List.length_take];omega
  have hle:=joinR_le3 (l:=l.take k) (fun s hs'=>hs s (List.mem_of_mem_take hs'))
  have hsl:=hs s hm
  have h10:(l.take k).length*(100000+2)≤1000*(100000+2):=Nat.mul_le_mul_right _ (by rw[List.length_take];omega)
  rw[hkl]at hst
  by_cases hk0:k=0
  ·rw[if_pos hk0]at hst
   have ha:joinR (l.take k)=ByteArray.empty:=by rw[hk0];rfl
   rw[ha]
   have t1:((0:Int)<(k:Int))=False:=by rw[hk0];simp
   have z3:((ByteArray.empty).size+s.size≤maxLen)=True:=eq_true (by rw[show (ByteArray.empty).size=0 from rfl];omega)
   (repeat'(first|apply kA|apply kB|((first|refine kc (N:=22) ?_|apply kD|apply kE);simp +decide only[go_sem,hlt,hw,hx,t1,z3])|(apply kG;(simp +decide only[go_sem,hlt,hw,hx,t1,z3];rfl);all_goals(intro hcnd;try exact kz hcnd))))
   exact kL rfl (by simp +decide only[go_sem,hst,ByteArray.empty_append]) (by simp[noMem])
  ·rw[if_neg hk0]at hst
   have t1:((0:Int)<(k:Int))=True:=by simp;omega
   generalize joinR (l.take k)=a at hst hle ⊢
   have z1:(a.size+ #[(44:UInt8),32].size≤maxLen)=True:=eq_true (by rw[show #[(44:UInt8),32].size=2 from rfl];omega)
   have z2:(a.size+ #[(44:UInt8),32].size+s.size≤maxLen)=True:=eq_true (by rw[show #[(44:UInt8),32].size=2 from rfl];omega)
   (repeat'(first|apply kA|apply kB|((first|refine kc (N:=22) ?_|apply kD|apply kE);simp +decide only[go_sem,hlt,hw,hx,t1,z1,z2])|(apply kG;(simp +decide only[go_sem,hlt,hw,hx,t1,z1,z2];rfl);all_goals(intro hcnd;try exact kz hcnd))))
   exact kL rfl (by simp +decide only[go_sem,hst,comma]) (by simp[noMem])
 ·intro hlt
  rw[List.take_length]
  (repeat'(first|apply kA|apply kB|((first|refine kc (N:=22) ?_|apply kD|apply kE|apply kF);simp +decide only[go_sem,hlt])|(apply kG;(simp +decide only[go_sem,hlt];rfl);all_goals(intro hcnd;try exact kz hcnd))))
theorem rHeads_D(x:LX){d:Dic}(hd:OkD d)(ids:List Int)(hl:ids.length≤1000):DCalls Tryz.prog 54 [.agg (lngRow x d),dv (.sl 1 (ints ids))] (dv (.sl 1 (strs (d.heads ids)))):=by
 have hmax:maxLen=9223372036854775807:=rfl
 refine kd (N:=23) (rs:= [.tmp 4]) Tryz.func54 ?_
 (repeat'(first|apply kA|apply kB|((first|refine kc (N:=23) ?_|refine kj (N:=23) kt45 ?_|apply kD|apply kE);simp +decide only[go_sem,lngRow])|(apply kG;(simp +decide only[go_sem,lngRow];rfl);all_goals(intro hcnd;try exact kz hcnd))))
 refine dw_own 5 5 1 (by simp +decide only[go_sem]) ?_
 refine dw_rng0 ids (fun k=>kn 23 [(1,dv (.sl 1 (ints ids))),(2,.one (.bx 2 9 0 0)),(5,.one (.own 5 1 (strs (d.heads (ids.take k))))),(6,dv (li k))] (ml [(2,[lngRow x d])])) (by omega) (kM rfl (by simp +decide only[go_sem,List.take_zero,Dic.heads,List.map_nil,lngRow,List.length_cons,List.length_nil]) (by simp +decide only[go_sem,lngRow])) ?_ ?_
 ·intro k n he hk hm htk hlt hw
  have hx:=ints_at2 he
  have hH:=rHead56_D x hd n
  simp only[lngRow]at hH
  have hst:=heads_take (d:=d) htk
  have hkl:(d.heads (ids.take k)).length=k:=by rw[heads_len,List.length_take];omega
  have r1:(((d.heads (ids.take k)).length+1)*16≤140737488355328)=True:=eq_true (by omega)
  (repeat'(first|apply kA|apply kB|((first|refine kc (N:=23) ?_|refine kj (N:=23) kt45 ?_|apply kD|apply kE|refine kx hH ?_);simp +decide only[go_sem,hlt,hw,hx,lngRow,r1])|(apply kG;(simp +decide only[go_sem,hlt,hw,hx,lngRow,r1];rfl);all_goals(intro hcnd;try exact kz hcnd))))
  exact kM rfl (by simp +decide only[go_sem,hst]) (by simp +decide only[go_sem,lngRow])
 ·intro hlt
  rw[List.take_length]
  (repeat'(first|apply kA|apply kB|((first|refine kc (N:=23) ?_|refine kj (N:=23) kt45 ?_|apply kD|apply kE);simp +decide only[go_sem,hlt])|(apply kG;(simp +decide only[go_sem,hlt];rfl);all_goals(intro hcnd;try exact kz hcnd))))
  refine dw_slot 4 _ (DLe.own_ _ _ _) ?_
  apply kF;simp +decide only[go_sem]
theorem rKind_D(k:Nat)(hk:k<6):DCalls Tryz.prog 53 [dv (li k)] (dv (ls (kindS k))):=by
 match k,hk with
 | 0,_=>
  refine kd (N:=7) (rs:= [.tmp 2]) Tryz.func53 ?_
  (repeat'(first|apply kA|apply kB|((first|refine kc (N:=7) ?_|apply kD|apply kE|apply kF);simp +decide only[go_sem,Int.reduceToNat,List.getElem?_cons_succ,List.getElem?_cons_zero,Int.toNat_natCast])|(apply kG;(simp +decide only[go_sem,Int.reduceToNat,List.getElem?_cons_succ,List.getElem?_cons_zero,Int.toNat_natCast];rfl);all_goals(intro hcnd;try exact kz hcnd))))
  rfl
 | 1,_=>
  refine kd (N:=7) (rs:= [.tmp 2]) Tryz.func53 ?_
  (repeat'(first|apply kA|apply kB|((first|refine kc (N:=7) ?_|apply kD|apply kE|apply kF);simp +decide only[go_sem,Int.reduceToNat,List.getElem?_cons_succ,List.getElem?_cons_zero,Int.toNat_natCast])|(apply kG;(simp +decide only[go_sem,Int.reduceToNat,List.getElem?_cons_succ,List.getElem?_cons_zero,Int.toNat_natCast];rfl);all_goals(intro hcnd;try exact kz hcnd))))
  rfl
 | 2,_=>
  refine kd (N:=7) (rs:= [.tmp 2]) Tryz.func53 ?_
  (repeat'(first|apply kA|apply kB|((first|refine kc (N:=7) ?_|apply kD|apply kE|apply kF);simp +decide only[go_sem,Int.reduceToNat,List.getElem?_cons_succ,List.getElem?_cons_zero,Int.toNat_natCast])|(apply kG;(simp +decide only[go_sem,Int.reduceToNat,List.getElem?_cons_succ,List.getElem?_cons_zero,Int.toNat_natCast];rfl);all_goals(intro hcnd;try exact kz hcnd))))
  rfl
 | 3,_=>
  refine kd (N:=7) (rs:= [.tmp 2]) Tryz.func53 ?_
  (repeat'(first|apply kA|apply kB|((first|refine kc (N:=7) ?_|apply kD|apply kE|apply kF);simp +decide only[go_sem,Int.reduceToNat,List.getElem?_cons_succ,List.getElem?_cons_zero,Int.toNat_natCast])|(apply kG;(simp +decide only[go_sem,Int.reduceToNat,List.getElem?_cons_succ,List.getElem?_cons_zero,Int.toNat_natCast];rfl);all_goals(intro hcnd;try exact kz hcnd))))
  rfl
 | 4,_=>
  refine kd (N:=7) (rs:= [.tmp 2]) Tryz.func53 ?_
  (repeat'(first|apply kA|apply kB|((first|refine kc (N:=7) ?_|apply kD|apply kE|apply kF);simp +decide only[go_sem,Int.reduceToNat,List.getElem?_cons_succ,List.getElem?_cons_zero,Int.toNat_natCast])|(apply kG;(simp +decide only[go_sem,Int.reduceToNat,List.getElem?_cons_succ,List.getElem?_cons_zero,Int.toNat_natCast];rfl);all_goals(intro hcnd;try exact kz hcnd))))
  rfl
 | 5,_=>
  refine kd (N:=7) (rs:= [.tmp 2]) Tryz.func53 ?_
  (repeat'(first|apply kA|apply kB|((first|refine kc (N:=7) ?_|apply kD|apply kE|apply kF);simp +decide only[go_sem,Int.reduceToNat,List.getElem?_cons_succ,List.getElem?_cons_zero,Int.toNat_natCast])|(apply kG;(simp +decide only[go_sem,Int.reduceToNat,List.getElem?_cons_succ,List.getElem?_cons_zero,Int.toNat_natCast];rfl);all_goals(intro hcnd;try exact kz hcnd))))
  rfl
theorem linkP_six(d:Dic)(e:Ent):d.linkP e 6=d.links e:=rfl
theorem rBefore_D(x:LX){d:Dic}(hd:OkD d){a b:Ent}(ha:a∈d.lex)(hb:b∈d.lex):DCalls Tryz.prog 47 [.agg (lngRow x d),.agg a.row,.agg b.row] (dv (lb (d.before a b))):=by
 have hmax:maxLen=9223372036854775807:=rfl
 have hA:=rSpelled_D x hd a.form (by have:=hd.frm a ha;omega)
 have hB:=rSpelled_D x hd b.form (by have:=hd.frm b hb;omega)
 have hC:=rCompare_D x.nm d.units d.letters (d.sp a.form) (d.sp b.form) (by have:=hd.llen;omega) hd.lll (by have:=sp_sz hd ha;omega) (by have:=sp_sz hd hb;omega)
 have hcmp:cmpK (keyE d.letters (d.sp a.form)) (keyE d.letters (d.sp b.form))=d.cmp a b:=rfl
 rw[hcmp]at hC
 simp only[lngRow,ortRow]at hA hB hC
 unfold Dic.before
 refine kd (N:=28) (rs:= [.tmp 6]) Tryz.func47 ?_
 cases t1:d.cmp a b !=0
 ·rw[if_neg (by simpa using t1)]
  (repeat'(first|apply kA|apply kB|((first|refine kc (N:=28) ?_|refine kj (N:=28) kt51 ?_|apply kD|apply kE|refine kx hA ?_|refine kx hB ?_|refine kx hC ?_|apply kF);simp +decide only[go_sem,lngRow,Ent.row,t1])|(apply kG;(simp +decide only[go_sem,lngRow,Ent.row,t1];rfl);all_goals(intro hcnd;try exact kz hcnd))))
 ·rw[if_pos (by simpa using t1)]
  (repeat'(first|apply kA|apply kB|((first|refine kc (N:=28) ?_|refine kj (N:=28) kt51 ?_|apply kD|apply kE|refine kx hA ?_|refine kx hB ?_|refine kx hC ?_|apply kF);simp +decide only[go_sem,lngRow,Ent.row,t1])|(apply kG;(simp +decide only[go_sem,lngRow,Ent.row,t1];rfl);all_goals(intro hcnd;try exact kz hcnd))))
def Dic.accL(d:Dic)(k:Nat):List Ent:=d.ordL [] (d.lex.take k)
theorem ordL_snoc(d:Dic): ∀(l acc:List Ent) (e:Ent),d.ordL acc (l++ [e])=putBack (fun x=>d.before e x) (d.ordL acc l) e
 | [],_,_=>rfl
 | y::l,acc,e=>by
  simp only[List.cons_append,Dic.ordL]
  exact ordL_snoc d l _ e
theorem accL_zero(d:Dic):d.accL 0= []:=rfl
theorem accL_succ{d:Dic}{k:Nat}{e:Ent}(h:d.lex[k]? =some e):d.accL (k+1)=putBack (fun x=>d.before e x) (d.accL k) e:=by
 unfold Dic.accL
 rw[List.take_add_one,h]
 exact ordL_snoc d _ [] e
theorem accL_all(d:Dic):d.accL d.lex.length=d.ord:=by unfold Dic.accL Dic.ord;rw[List.take_length]
theorem accL_len{d:Dic}{k:Nat}(h:k≤d.lex.length):(d.accL k).length=k:=by
 have:=(ordL_perm d (d.lex.take k) []).length_eq
 unfold Dic.accL
 rw[this,List.nil_append,List.length_take];omega
theorem accL_mem{d:Dic}{k:Nat}{x:Ent}(h:x∈d.accL k):x∈d.lex:=by
 have:=(ordL_perm d (d.lex.take k) []).mem_iff.1 h
 rw[List.nil_append]at this
 exact List.mem_of_mem_take this
theorem rOrder56_D(x:LX){d:Dic}(hd:OkD d):DCalls Tryz.prog 20 [.agg (lngRow x d)] (dv (.sl 1 (ints (d.ord.map (·.id))))):=by
 have hmax:maxLen=9223372036854775807:=rfl
 have hf:=hd.few
 rw[← accL_all]
 refine kd (N:=69) (rs:= [.tmp 2]) Tryz.func20 ?_
 (repeat'(first|apply kA|apply kB|((first|refine kc (N:=69) ?_|refine kj (N:=69) kt52 ?_|apply kD|apply kE);simp +decide only[go_sem,lngRow])|(apply kG;(simp +decide only[go_sem,lngRow];rfl);all_goals(intro hcnd;try exact kz hcnd))|((first|apply kH|apply kI)<;>(intro hcnd;simp +decide only[go_sem,hcnd,lngRow]))))
 refine dw_slot 3 (dv (.sl 8 [])) (by simp +decide only[go_sem]) ?_
 refine dw_rng0 d.lex (fun k=>kn 69 [(1,.one (.bx 1 9 0 0)),(3,dv (.sl 8 ((d.accL k).map Ent.enc))),(4,dv (li k))] (ml [(1,[lngRow x d])])) (by omega)
  (kM rfl (by simp +decide only[go_sem,lngRow,accL_zero,List.map_nil]) (by simp +decide only[go_sem,lngRow])) ?_ ?_
 ·intro k e he hk hm htk hlt hw
  have hal:=accL_len (d:=d) (k:=k) (by omega)
  have hst:=accL_succ he
  have hmk: ∀y∈d.accL k,y∈d.lex:=fun y hy=>accL_mem hy
  rw[hst]
  generalize d.accL k=acc at hal hmk ⊢
  (repeat'(first|apply kA|apply kB|((first|refine kc (N:=69) ?_|apply kD|apply kE);simp +decide only[go_sem,hlt,lngRow,Ent.enc])|(apply kG;(simp +decide only[go_sem,hlt,lngRow,Ent.enc];rfl);all_goals(intro hcnd;try exact kz hcnd))|((first|apply kH|apply kI)<;>(intro hcnd;simp +decide only[go_sem,hcnd,hlt,lngRow,Ent.enc]))))
  refine dw_after (fun _:Unit=>kn 69 [(1,.one (.bx 1 9 0 0)),(3,dv (.sl 8 (acc.map Ent.enc))),(4,dv (li k)),(5,dv (li (backN (fun y=>d.before e y) acc k)))] (ml [(1,[lngRow x d])])) (fun _=>True) ?_ ?_
  ·refine dw_loop_fam (fun i:Nat=>kn 69 [(1,.one (.bx 1 9 0 0)),(3,dv (.sl 8 (acc.map Ent.enc))),(4,dv (li k)),(5,dv (li i))] (ml [(1,[lngRow x d])])) (fun i=>i≤k∧backN (fun y=>d.before e y) acc k=backN (fun y=>d.before e y) acc i) (fun i=>i) k (kM rfl (by simp +decide only[go_sem,lngRow,hal]) (by simp +decide only[go_sem,lngRow])) ⟨Nat.le_refl _,rfl⟩ ?_
   rintro i ⟨hik,hbk⟩
   rw[hbk]
   cases i with
   | zero=>
    have t1:((0:Int)<((0:Nat):Int))=False:=by simp
    (repeat'(first|apply kA|apply kB|((first|refine kc (N:=69) ?_|refine kj (N:=69) kt52 ?_|apply kD|apply kE);simp +decide only[go_sem,t1,lngRow])|(apply kG;(simp +decide only[go_sem,t1,lngRow];rfl);all_goals(intro hcnd;try exact kz hcnd))|((first|apply kH|apply kI)<;>(intro hcnd;simp +decide only[go_sem,hcnd,t1,lngRow]))))
    exact⟨(),kM rfl (by simp +decide only[go_sem,backN,lngRow]) (by simp +decide only[go_sem,lngRow])⟩
   | succ n=>
    obtain⟨y,hy⟩: ∃y,acc[n]? =some y:=⟨acc[n]'(by omega),List.getElem?_eq_getElem (by omega)⟩
    have hym:=hmk y (List.mem_of_getElem? hy)
    have hB:=rBefore_D x hd hm hym
    simp only[lngRow,Ent.row]at hB
    have w1:IntKind.i64.wrap (((n+1:Nat):Int) - 1)=(n:Int):=by rw[wrap_i64 (by omega) (by omega)];omega
    have t1:((0:Int)<((n+1:Nat):Int))=True:=eq_true (by omega)
    have hbe:backN (fun y=>d.before e y) acc (n+1)=if d.before e y=true then backN (fun y=>d.before e y) acc n else n+1:=by simp only[backN,hy]
    cases t2:d.before e y
    ·rw[t2]at hB
     rw[t2,if_neg (by decide)]at hbe
     (repeat'(first|apply kA|apply kB|((first|refine kc (N:=69) ?_|refine kj (N:=69) kt52 ?_|apply kD|apply kE|refine kx hB ?_);simp +decide only[go_sem,t1,w1,he,hy,lngRow,Ent.enc,Int.toNat_natCast])|(apply kG;(simp +decide only[go_sem,t1,w1,he,hy,lngRow,Ent.enc,Int.toNat_natCast];rfl);all_goals(intro hcnd;try exact kz hcnd))|((first|apply kH|apply kI)<;>(intro hcnd;simp +decide only[go_sem,hcnd,t1,w1,he,hy,lngRow,Ent.enc,Int.toNat_natCast]))))
     exact⟨(),kM rfl (by simp +decide only[go_sem,hbe,lngRow]) (by simp +decide only[go_sem,lngRow])⟩
    ·rw[t2]at hB
     rw[t2,if_pos rfl]at hbe
     (repeat'(first|apply kA|apply kB|((first|refine kc (N:=69) ?_|refine kj (N:=69) kt52 ?_|apply kD|apply kE|refine kx hB ?_);simp +decide only[go_sem,t1,w1,he,hy,lngRow,Ent.enc,Int.toNat_natCast])|(apply kG;(simp +decide only[go_sem,t1,w1,he,hy,lngRow,Ent.enc,Int.toNat_natCast];rfl);all_goals(intro hcnd;try exact kz hcnd))|((first|apply kH|apply kI)<;>(intro hcnd;simp +decide only[go_sem,hcnd,t1,w1,he,hy,lngRow,Ent.enc,Int.toNat_natCast]))))
     exact⟨n,⟨by omega,hbe⟩,by omega,kM rfl (by simp +decide only[go_sem,w1,lngRow]) (by simp +decide only[go_sem,lngRow])⟩
  rintro _ _
  have hpl:=backN_le (fun y=>d.before e y) acc k
  have hpb:putBack (fun y=>d.before e y) acc e=acc.take (backN (fun y=>d.before e y) acc k)++e::acc.drop (backN (fun y=>d.before e y) acc k):=by unfold putBack;rw[hal]
  rw[hpb]
  generalize backN (fun y=>d.before e y) acc k=p at hpl ⊢
  clear hpb hst
  have hkk:(acc.take p).length=p:=by rw[List.length_take];omega
  have hpT:(p≤acc.length)=True:=eq_true (by omega)
  have h0p:=Nat.zero_le p
  have htI:List.take acc.length (acc.map Ent.enc)=acc.map Ent.enc:=List.take_of_length_le (by simp)
  have htP:List.take p (acc.map Ent.enc)=(acc.take p).map Ent.enc:=by simp[List.map_take]
  have hdP:List.drop p (acc.map Ent.enc)=(acc.drop p).map Ent.enc:=by simp[List.map_drop]
  have hfin:(acc.take p++e::acc.drop p).map Ent.enc=(acc.take p).map Ent.enc++ [e.enc]++(acc.drop p).map Ent.enc:=by simp
  have r1:((acc.take p).length*144≤140737488355328)=True:=eq_true (by omega)
  have r2:(((acc.take p).length+1)*144≤140737488355328)=True:=eq_true (by omega)
  have r3:(((acc.take p).length+1+(acc.drop p).length)*144≤140737488355328)=True:=eq_true (by rw[List.length_drop];omega)
  rw[hfin]
  (repeat'(first|apply kA|apply kB|((first|refine kc (N:=69) ?_|refine kj (N:=69) kt52 ?_|apply kD|apply kE);simp +decide only[go_sem,he,hpT,h0p,htI,htP,hdP,r1,r2,r3,lngRow,Ent.enc,List.length_append,List.length_map,List.length_cons,List.length_nil,Int.toNat_natCast])|(apply kG;(simp +decide only[go_sem,he,hpT,h0p,htI,htP,hdP,r1,r2,r3,lngRow,Ent.enc,List.length_append,List.length_map,List.length_cons,List.length_nil,Int.toNat_natCast];rfl);all_goals(intro hcnd;try exact kz hcnd))|((first|apply kH|apply kI)<;>(intro hcnd;simp +decide only[go_sem,hcnd,he,hpT,h0p,htI,htP,hdP,r1,r2,r3,lngRow,Ent.enc,List.length_append,List.length_map,List.length_cons,List.length_nil,Int.toNat_natCast]))))
  exact kM rfl (by simp +decide only[go_sem,lngRow,hw]) (by simp +decide only[go_sem,lngRow])
 ·intro hlt
  have hal:(d.accL d.lex.length).length=d.lex.length:=accL_len (Nat.le_refl _)
  generalize d.accL d.lex.length=acc at hal ⊢
  (repeat'(first|apply kA|apply kB|((first|refine kc (N:=69) ?_|refine kj (N:=69) kt52 ?_|apply kD|apply kE);simp +decide only[go_sem,hlt,lngRow])|(apply kG;(simp +decide only[go_sem,hlt,lngRow];rfl);all_goals(intro hcnd;try exact kz hcnd))|((first|apply kH|apply kI)<;>(intro hcnd;simp +decide only[go_sem,hcnd,hlt,lngRow]))))
  refine dw_own 7 7 1 (by simp +decide only[go_sem]) ?_
  refine dw_rng0 acc (fun k=>kn 69 [(3,dv (.sl 8 (acc.map Ent.enc))),(7,.one (.own 7 1 (ints ((acc.take k).map (·.id))))),(8,dv (li k))] noMem) (by omega)
   (kL rfl (by simp +decide only[go_sem,List.take_zero,List.map_nil,List.length_cons,List.length_nil]) (by simp[noMem])) ?_ ?_
  ·intro k e he hk hm htk hlt2 hw
   have hkl:((acc.take k).map (·.id)).length=k:=by rw[List.length_map,List.length_take];omega
   have r1:(((acc.take k).length+1)*8≤140737488355328)=True:=eq_true (by rw[List.length_take];omega)
   have hst:ints ((acc.take (k+1)).map (·.id))=ints ((acc.take k).map (·.id))++ [[li e.id]]:=by rw[htk];simp
   rw[hst]
   (repeat'(first|apply kA|apply kB|((first|refine kc (N:=69) ?_|refine kj (N:=69) kt52 ?_|apply kD|apply kE);simp +decide only[go_sem,hlt2,hw,he,r1,Ent.enc,List.length_map])|(apply kG;(simp +decide only[go_sem,hlt2,hw,he,r1,Ent.enc,List.length_map];rfl);all_goals(intro hcnd;try exact kz hcnd))|((first|apply kH|apply kI)<;>(intro hcnd;simp +decide only[go_sem,hcnd,hlt2,hw,he,r1,Ent.enc,List.length_map]))))
   exact kL rfl (by simp +decide only[go_sem]) (by simp[noMem])
  ·intro hlt2
   rw[List.take_length]
   (repeat'(first|apply kA|apply kB|((first|refine kc (N:=69) ?_|refine kj (N:=69) kt52 ?_|apply kD|apply kE);simp +decide only[go_sem,hlt2])|(apply kG;(simp +decide only[go_sem,hlt2];rfl);all_goals(intro hcnd;try exact kz hcnd))|((first|apply kH|apply kI)<;>(intro hcnd;simp +decide only[go_sem,hcnd,hlt2]))))
   refine dw_slot 2 _ (DLe.own_ _ _ _) ?_
   apply kF;simp +decide only[go_sem]
theorem rArticle_D(x:LX){d:Dic}(hd:OkD d)(id:Int):DCalls Tryz.prog 23 [.agg (lngRow x d),dv (li id)] (dv (.sl 1 (strs (d.article id)))):=by
 have hmax:maxLen=9223372036854775807:=rfl
 have hf:=hd.few
 have hG:=rGet_D d.lex id (by omega)
 have hH:=rHead56_D x hd id
 have hhl:=head_le hd id
 have hmem:(getE d.lex id).2=true→(getE d.lex id).1∈d.lex∧(getE d.lex id).1.id=id:=fun h=>getE_mem h
 unfold Dic.article
 generalize getE d.lex id=p at hG hmem ⊢
 obtain⟨e,b⟩:=p
 simp only[Ent.row]at hG hmem ⊢
 simp only[lngRow]at hH
 cases b
 ·rw[if_pos rfl]
  refine kd (N:=168) (rs:= [.tmp 4]) Tryz.func23 ?_
  (repeat'(first|apply kA|apply kB|((first|refine kc (N:=168) ?_|refine kj (N:=168) kt46 ?_|apply kD|apply kE|refine kx hG ?_);simp +decide only[go_sem,lngRow])|(apply kG;(simp +decide only[go_sem,lngRow];rfl);all_goals(intro hcnd;try exact kz hcnd))))
  refine dw_slot 4 _ (DLe.nil_ 1) ?_
  apply kF;simp +decide only[go_sem]
 rw[if_neg (by decide)]
 obtain⟨he,hid⟩:=hmem rfl
 have hM:=rHead56_D x hd e.main
 have hml:=head_le hd e.main
 simp only[lngRow]at hM
 by_cases h0:e.senses= []
 ·rw[if_pos h0]
  have t1:((e.senses.length:Int)==0)=true:=by rw[h0];rfl
  generalize d.head id=hh at hH hhl ⊢
  generalize d.head e.main=hm at hM hml ⊢
  have z1:(hh.size+ #[(58:UInt8),32,115,101,101,32].size≤maxLen)=True:=mx (by simp only[List.size_toArray,List.length_cons,List.length_nil];omega)
  have z2:(hh.size+ #[(58:UInt8),32,115,101,101,32].size+hm.size≤maxLen)=True:=mx (by simp only[List.size_toArray,List.length_cons,List.length_nil];omega)
  refine kd (N:=168) (rs:= [.tmp 4]) Tryz.func23 ?_
  (repeat'(first|apply kA|apply kB|((first|refine kc (N:=168) ?_|refine kj (N:=168) kt46 ?_|apply kD|apply kE|refine kx hG ?_|refine kx hH ?_|refine kx hM ?_);simp +decide only[go_sem,lngRow,t1,z1,z2])|(apply kG;(simp +decide only[go_sem,lngRow,t1,z1,z2];rfl);all_goals(intro hcnd;try exact kz hcnd))))
  refine dw_slot 4 _ (DLe.ex_ _ _) ?_
  apply kF;simp +decide only[go_sem]
  rfl
 rw[if_neg h0]
 have hsl:e.senses.length≠0:=by simpa using h0
 have hsf:=(links_few hd he).2
 have t1:((e.senses.length:Int)==0)=false:=by rw[beq_eq_false_iff_ne];omega
 have hna:=hd.nalt e he
 have hmid:=hd.mid e he
 refine kd (N:=168) (rs:= [.tmp 4]) Tryz.func23 ?_
 (repeat'(first|apply kA|apply kB|((first|refine kc (N:=168) ?_|refine kj (N:=168) kt46 ?_|apply kD|apply kE|refine kx hG ?_|refine kx hH ?_);simp +decide only[go_sem,lngRow,t1])|(refine dw_condT ?_ ?_;focus (simp +decide only[go_sem,lngRow,t1];done))|(refine dw_condF ?_ ?_;focus (simp +decide only[go_sem,lngRow,t1];done))))
 -- the alternatives
 refine dw_own 8 8 1 (by simp +decide only[go_sem]) ?_
 refine dw_rng0 e.alts (fun j=>kn 168 [(1,dv (li id)),(2,.one (.bx 2 9 0 0)),(5,.one (.bx 5 8 0 0)),(7,dv (ls (d.head id))),(8,.one (.own 8 1 (strs ((e.alts.take j).map d.sp)))),(9,dv (li j))] (ml [(2,[lngRow x d]),(5,[e.row])])) (by omega)
  (kM rfl (by simp +decide only[go_sem,lngRow,Ent.row,List.take_zero,List.map_nil,List.length_cons,List.length_nil]) (by simp +decide only[go_sem,lngRow,Ent.row])) ?_ ?_
 ·intro j w hy hj hm htk hlt hw
  have hS:=rSpelled_D x hd w (by have:=hd.alt e he w hm;omega)
  simp only[lngRow]at hS
  have hst:=alts_take (d:=d) htk
  have hat:=alt_at hy
  have hll:((e.alts.take j).map d.sp).length=j:=by rw[List.length_map,List.length_take];omega
  have r2:((((e.alts.take j).map d.sp).length+1)*16≤140737488355328)=True:=eq_true (by omega)
  have r3:(((e.alts.take j).length+1)*16≤140737488355328)=True:=eq_true (by rw[List.length_take];omega)
  (repeat'(first|apply kA|apply kB|((first|refine kc (N:=168) ?_|refine kj (N:=168) kt46 ?_|apply kD|apply kE|refine kx hS ?_);simp +decide only[go_sem,hlt,hw,hat,r2,r3,lngRow,Ent.row])|(apply kG;(simp +decide only[go_sem,hlt,hw,hat,r2,r3,lngRow,Ent.row];rfl);all_goals(intro hcnd;try exact kz hcnd))))
  exact kM rfl (by simp +decide only[go_sem,hst,lngRow,Ent.row]) (by simp +decide only[go_sem,lngRow,Ent.row])
 intro hlt
 rw[List.take_length]
 (repeat'(first|apply kA|apply kB|((first|refine kc (N:=168) ?_|refine kj (N:=168) kt46 ?_|apply kD|apply kE);simp +decide only[go_sem,hlt,lngRow,Ent.row])|(refine dw_condT ?_ ?_;focus (simp +decide only[go_sem,hlt,lngRow,Ent.row];done))|(refine dw_condF ?_ ?_;focus (simp +decide only[go_sem,hlt,lngRow,Ent.row];done))))
 refine dw_afterN (fun _:Unit=>kn 168 [(1,dv (li id)),(2,.one (.bx 2 9 0 0)),(5,.one (.bx 5 8 0 0)),(7,dv (ls (d.first e)))] (ml [(2,[lngRow x d]),(5,[e.row])])) (fun _=>True) ?_ ?_
 ·by_cases ha:e.alts= []
  ·have t2:((0:Int)<(e.alts.length:Int))=False:=by rw[ha];simp
   have hfe:d.first e=d.head id:=by unfold Dic.first;rw[if_pos ha,hid]
   (repeat'(first|apply kA|apply kB|((first|refine kc (N:=168) ?_|refine kj (N:=168) kt46 ?_|apply kD|apply kE);simp +decide only[go_sem,t2,lngRow,Ent.row,List.length_map])|(apply kG;(simp +decide only[go_sem,t2,lngRow,Ent.row,List.length_map];rfl);all_goals(intro hcnd;try exact kz hcnd))))
   exact⟨(),kM rfl (by simp +decide only[go_sem,hfe,lngRow,Ent.row]) (by simp +decide only[go_sem,lngRow,Ent.row])⟩
  ·have hap:0<e.alts.length:=List.length_pos_iff.2 ha
   have t2:((0:Int)<(e.alts.length:Int))=True:=by simp;omega
   have hfe:d.first e=d.head id++tildeS++joinR (e.alts.map d.sp):=by unfold Dic.first;rw[if_neg ha,hid,ByteArray.append_assoc]
   have hsz: ∀s∈e.alts.map d.sp,s.size≤96:=fun s hs=>by
    obtain⟨w,hw,rfl⟩:=List.mem_map.1 hs
    have h1:=sp_le hd w
    have h2:=hd.alt e he w hw
    have:w.length*32≤3*32:=Nat.mul_le_mul_right _ h2
    omega
   have hJ:=rJoined_D (e.alts.map d.sp) (by rw[List.length_map];omega) (fun s hs=>by have:=hsz s hs;omega)
   have hjl:=joinR_le3 hsz
   rw[List.length_map]at hjl
   have h10:e.alts.length*(96+2)≤1*(96+2):=Nat.mul_le_mul_right _ hna
   generalize hjj:joinR (e.alts.map d.sp)=jj at hJ hjl hfe
   have z1:((d.head id).size+ #[(32:UInt8),126,32].size≤maxLen)=True:=mx (by simp only[List.size_toArray,List.length_cons,List.length_nil];omega)
   have z2:((d.head id).size+ #[(32:UInt8),126,32].size+jj.size≤maxLen)=True:=mx (by simp only[List.size_toArray,List.length_cons,List.length_nil];omega)
   (repeat'(first|apply kA|apply kB|((first|refine kc (N:=168) ?_|refine kj (N:=168) kt46 ?_|apply kD|apply kE|refine kx hJ ?_);simp +decide only[go_sem,t2,z1,z2,lngRow,Ent.row,List.length_map])|(apply kG;(simp +decide only[go_sem,t2,z1,z2,lngRow,Ent.row,List.length_map];rfl);all_goals(intro hcnd;try exact kz hcnd))))
   exact⟨(),kM rfl (by simp +decide only[go_sem,hfe,tildeS,lngRow,Ent.row]) (by simp +decide only[go_sem,lngRow,Ent.row])⟩
 rintro _ _
 clear hlt
 have hV:=rAll_D d.lex id (by omega)
 have hll:=links_len (d:=d) e
 have hal:=all_len d.lex id
 (repeat'(first|apply kA|apply kB|((first|refine kc (N:=168) ?_|refine kj (N:=168) kt46 ?_|apply kD|apply kE);simp +decide only[go_sem,lngRow,Ent.row])|(refine dw_condT ?_ ?_;focus (simp +decide only[go_sem,lngRow,Ent.row];done))|(refine dw_condF ?_ ?_;focus (simp +decide only[go_sem,lngRow,Ent.row];done))))
 refine dw_ownX (xs:= [[ls (d.first e)]]) 10 10 1 (by simp +decide only[go_sem]) ?_
 refine dw_rng0 e.senses (fun k=>kn 168 [(1,dv (li id)),(2,.one (.bx 2 9 0 0)),(5,.one (.bx 5 8 0 0)),(10,.one (.own 10 1 (strs (d.first e::senP e.senses k)))),(11,dv (li k))] (ml [(2,[lngRow x d]),(5,[e.row])])) (by omega)
  (kM rfl (by simp +decide only[go_sem,lngRow,Ent.row,senP_zero,List.map_cons,List.map_nil,List.length_cons,List.length_nil]) (by simp +decide only[go_sem,lngRow,Ent.row])) ?_ ?_
 ·intro k s hs1 hk hm htk hlt hw
  have hst:=senP_succ hs1
  have hsl2:=senP_len e.senses k
  have r1:(((senP e.senses k).length+1+1)*16≤140737488355328)=True:=eq_true (by omega)
  have hN:=rTextN_D ((k+1:Nat):Int) (by omega) (by omega)
  have hnl:=numB_le (n:=((k+1:Nat):Int)) (by omega) (by omega)
  have hcast:((k:Int)+1)=((k+1:Nat):Int):=by omega
  have hstr:=hmid.strs s hm
  unfold senseS at hst
  rw[hcast]at hst
  generalize numB ((k+1:Nat):Int)=nb at hN hnl hst
  have z1:(#[(32:UInt8),32].size+nb.size≤maxLen)=True:=mx (by simp only[List.size_toArray,List.length_cons,List.length_nil];omega)
  have z2:(#[(32:UInt8),32].size+nb.size+ #[(46:UInt8),32].size≤maxLen)=True:=mx (by simp only[List.size_toArray,List.length_cons,List.length_nil];omega)
  have z3:(#[(32:UInt8),32].size+nb.size+ #[(46:UInt8),32].size+s.gloss.size≤maxLen)=True:=mx (by simp only[List.size_toArray,List.length_cons,List.length_nil];omega)
  have z4:(#[(32:UInt8),32].size+nb.size+ #[(46:UInt8),32].size+s.gloss.size+ #[(58:UInt8),32].size≤maxLen)=True:=mx (by simp only[List.size_toArray,List.length_cons,List.length_nil];omega)
  have z5:(#[(32:UInt8),32].size+nb.size+ #[(46:UInt8),32].size+s.gloss.size+ #[(58:UInt8),32].size+s.txt.size≤maxLen)=True:=mx (by simp only[List.size_toArray,List.length_cons,List.length_nil];omega)
  have e1:=size0 s.txt
  cases t2:s.txt.size==0
  ·rw[t2]at e1
   rw[if_pos (by simpa using t2),← ByteArray.append_assoc]at hst
   (repeat'(first|apply kA|apply kB|((first|refine kc (N:=168) ?_|refine kj (N:=168) kt46 ?_|apply kD|apply kE|refine kx hN ?_);simp +decide only[go_sem,hlt,hw,hs1,e1,z1,z2,z3,z4,z5,r1,Sns.enc,lngRow,Ent.row,Bool.not_false,Bool.not_true])|(apply kG;(simp +decide only[go_sem,hlt,hw,hs1,e1,z1,z2,z3,z4,z5,r1,Sns.enc,lngRow,Ent.row,Bool.not_false,Bool.not_true];rfl);all_goals(intro hcnd;try exact kz hcnd))))
   refine kM rfl (by simp +decide only[go_sem,hst,lngRow,Ent.row,List.map_append,List.map_cons,List.map_nil,two,dotS,colonS]) (by simp +decide only[go_sem,lngRow,Ent.row])
  ·rw[t2]at e1
   rw[if_neg (by simpa using t2)]at hst
   (repeat'(first|apply kA|apply kB|((first|refine kc (N:=168) ?_|refine kj (N:=168) kt46 ?_|apply kD|apply kE|refine kx hN ?_);simp +decide only[go_sem,hlt,hw,hs1,e1,z1,z2,z3,z4,z5,r1,Sns.enc,lngRow,Ent.row,Bool.not_false,Bool.not_true])|(apply kG;(simp +decide only[go_sem,hlt,hw,hs1,e1,z1,z2,z3,z4,z5,r1,Sns.enc,lngRow,Ent.row,Bool.not_false,Bool.not_true];rfl);all_goals(intro hcnd;try exact kz hcnd))))
   refine kM rfl (by simp +decide only[go_sem,hst,lngRow,Ent.row,List.map_append,List.map_cons,List.map_nil,two,dotS,colonS]) (by simp +decide only[go_sem,lngRow,Ent.row])
 intro hlt
 have hsl2:=senP_len e.senses e.senses.length
 have hfull:d.full e=(d.first e::senP e.senses e.senses.length)++d.links e++(if allE d.lex id= []then []else [varS++joinR (d.heads (allE d.lex id))]):=by unfold Dic.full;rw[senP_all,hid];rfl
 rw[hfull]
 have hh1:(d.first e::senP e.senses e.senses.length).length≤6:=by rw[List.length_cons];omega
 generalize d.first e::senP e.senses e.senses.length=hdr at hh1 ⊢
 have hlk:=(links_few hd he).1
 (repeat'(first|apply kA|apply kB|((first|refine kc (N:=168) ?_|refine kj (N:=168) kt46 ?_|apply kD|apply kE);simp +decide only[go_sem,hlt,lngRow,Ent.row])|(apply kG;(simp +decide only[go_sem,hlt,lngRow,Ent.row];rfl);all_goals(intro hcnd;try exact kz hcnd))))
 refine dw_loop_fam (fun k:Nat=>kn 168 [(1,dv (li id)),(2,.one (.bx 2 9 0 0)),(5,.one (.bx 5 8 0 0)),(10,.one (.own 10 1 (strs (hdr++d.linkP e k)))),(13,dv (li k))] (ml [(2,[lngRow x d]),(5,[e.row])])) (fun k=>k≤6) (fun k=>6 - k) 0
  (kM rfl (by simp +decide only[go_sem,lngRow,Ent.row,linkP_zero,List.append_nil]) (by simp +decide only[go_sem,lngRow,Ent.row])) (by omega) ?_
 intro k hk
 have hfl:=flat_len d e k
 have hhl2:(hdr++d.linkP e k).length=hdr.length+(d.linkP e k).length:=List.length_append
 have r1:(((hdr++d.linkP e k).length+1)*16≤140737488355328)=True:=eq_true (by omega)
 by_cases k6:k<6
 ·have t1:((k:Int)≤5)=True:=by simp;omega
  have hst:=linkP_succ d e k
  have hst9:strs (hdr++d.linkP e (k+1))=strs (hdr++d.linkP e k)++strs (d.kindL e k):=by rw[hst,← List.append_assoc];simp[strs]
  generalize hdr++d.linkP e k=pre at hhl2 r1 hst9 ⊢
  (repeat'(first|apply kA|apply kB|((first|refine kc (N:=168) ?_|refine kj (N:=168) kt46 ?_|apply kD|apply kE);simp +decide only[go_sem,t1,lngRow,Ent.row])|(apply kG;(simp +decide only[go_sem,t1,lngRow,Ent.row];rfl);all_goals(intro hcnd;try exact kz hcnd))))
  refine dw_own 14 14 1 (by simp +decide only[go_sem]) ?_
  refine dw_rng0 e.links (fun j=>kn 168 [(1,dv (li id)),(2,.one (.bx 2 9 0 0)),(5,.one (.bx 5 8 0 0)),(10,.one (.own 10 1 (strs pre))),(13,dv (li k)),(14,.one (.own 14 1 (ints (kindT (e.links.take j) k)))),(15,dv (li j))] (ml [(2,[lngRow x d]),(5,[e.row])])) (by omega)
   (kM rfl (by simp +decide only[go_sem,lngRow,Ent.row,List.take_zero,kindT,List.filter_nil,List.map_nil,List.length_cons,List.length_nil]) (by simp +decide only[go_sem,lngRow,Ent.row])) ?_ ?_
  ·intro j y hy hj hm htk hlt hw
   have hst:=kindT_snoc (e.links.take j) y k
   rw[← htk]at hst
   have hln:=kindT_len (e.links.take j) k
   have r2:(((kindT (e.links.take j) k).length+1)*8≤140737488355328)=True:=eq_true (by rw[List.length_take]at hln;omega)
   cases t2:y.kind==(k:Int)
   ·rw[t2,if_neg (by decide),List.append_nil]at hst
    (repeat'(first|apply kA|apply kB|((first|refine kc (N:=168) ?_|refine kj (N:=168) kt46 ?_|apply kD|apply kE);simp +decide only[go_sem,hlt,hw,hy,t2,r2,Lnk.enc,lngRow,Ent.row])|(apply kG;(simp +decide only[go_sem,hlt,hw,hy,t2,r2,Lnk.enc,lngRow,Ent.row];rfl);all_goals(intro hcnd;try exact kz hcnd))))
    exact kM rfl (by simp +decide only[go_sem,hst,lngRow,Ent.row]) (by simp +decide only[go_sem,lngRow,Ent.row])
   ·rw[t2,if_pos rfl]at hst
    have hst2:ints (kindT (e.links.take (j+1)) k)=ints (kindT (e.links.take j) k)++ [[li y.tgt]]:=by rw[hst];simp
    (repeat'(first|apply kA|apply kB|((first|refine kc (N:=168) ?_|refine kj (N:=168) kt46 ?_|apply kD|apply kE);simp +decide only[go_sem,hlt,hw,hy,t2,r2,Lnk.enc,lngRow,Ent.row])|(apply kG;(simp +decide only[go_sem,hlt,hw,hy,t2,r2,Lnk.enc,lngRow,Ent.row];rfl);all_goals(intro hcnd;try exact kz hcnd))))
    exact kM rfl (by simp +decide only[go_sem,hst2,lngRow,Ent.row]) (by simp +decide only[go_sem,lngRow,Ent.row])
  intro hlt
  rw[List.take_length]
  have hki:kindT e.links k=kindIds e k:=rfl
  rw[hki]
  have hkl:(kindIds e k).length≤12:=Nat.le_trans (kindT_len e.links k) hlk
  have hHs:=rHeads_D x hd (kindIds e k) (by omega)
  have hJ:=rJoined_D (d.heads (kindIds e k)) (by rw[heads_len];omega) (fun s hs=>by have:=heads_le hd (kindIds e k) s hs;omega)
  have hjs:=joinR_le3 (heads_le hd (kindIds e k))
  rw[heads_len]at hjs
  have h10:(kindIds e k).length*(400+2)≤12*(400+2):=Nat.mul_le_mul_right _ hkl
  have hK:=rKind_D k k6
  have hks:=kindS_le k
  have w1:IntKind.i64.wrap ((k:Int)+1)=((k+1:Nat):Int):=wrap_succ k (by omega)
  simp only[lngRow]at hHs
  unfold Dic.kindL at hst9
  by_cases h0:kindIds e k= []
  ·rw[if_pos h0]at hst9
   have t3:((0:Int)<((kindIds e k).length:Int))=False:=by rw[h0];simp
   (repeat'(first|apply kA|apply kB|((first|refine kc (N:=168) ?_|refine kj (N:=168) kt46 ?_|apply kD|apply kE);simp +decide only[go_sem,hlt,t3,w1,lngRow,Ent.row])|(apply kG;(simp +decide only[go_sem,hlt,t3,w1,lngRow,Ent.row];rfl);all_goals(intro hcnd;try exact kz hcnd))))
   refine⟨k+1,by omega,by omega,?_⟩
   rw[hst9]
   exact kM rfl (by simp +decide only[go_sem,lngRow,Ent.row,List.map_nil,List.append_nil]) (by simp +decide only[go_sem,lngRow,Ent.row])
  ·rw[if_neg h0]at hst9
   have hp:0<(kindIds e k).length:=List.length_pos_iff.2 h0
   have t3:((0:Int)<((kindIds e k).length:Int))=True:=by simp;omega
   generalize hks':kindS k=ks at hK hks hst9
   generalize hjj:joinR (d.heads (kindIds e k))=jj at hJ hjs hst9
   have z1:(#[(32:UInt8),32].size+ks.size≤maxLen)=True:=mx (by simp only[List.size_toArray,List.length_cons,List.length_nil];omega)
   have z2:(#[(32:UInt8),32].size+ks.size+ #[(58:UInt8),32].size≤maxLen)=True:=mx (by simp only[List.size_toArray,List.length_cons,List.length_nil];omega)
   have z3:(#[(32:UInt8),32].size+ks.size+ #[(58:UInt8),32].size+jj.size≤maxLen)=True:=mx (by simp only[List.size_toArray,List.length_cons,List.length_nil];omega)
   (repeat'(first|apply kA|apply kB|((first|refine kc (N:=168) ?_|refine kj (N:=168) kt46 ?_|apply kD|apply kE|refine kx hK ?_|refine kx hHs ?_|refine kx hJ ?_);simp +decide only[go_sem,hlt,t3,w1,z1,z2,z3,r1,lngRow,Ent.row])|(apply kG;(simp +decide only[go_sem,hlt,t3,w1,z1,z2,z3,r1,lngRow,Ent.row];rfl);all_goals(intro hcnd;try exact kz hcnd))))
   refine⟨k+1,by omega,by omega,?_⟩
   rw[hst9]
   exact kM rfl (by simp +decide only[go_sem,lngRow,Ent.row,two,colonS,List.map_cons,List.map_nil]) (by simp +decide only[go_sem,lngRow,Ent.row])
 ·have t1:((k:Int)≤5)=False:=by simp;omega
  have e6:k=6:=by omega
  subst e6
  rw[linkP_six]at hhl2 r1 ⊢
  have hl6:(d.links e).length≤6:=hll
  generalize hdr++d.links e=pre at hhl2 r1 ⊢
  by_cases hv:allE d.lex id= []
  ·have t3:((0:Int)<((allE d.lex id).length:Int))=False:=by rw[hv];simp
   rw[if_pos hv,List.append_nil]
   (repeat'(first|apply kA|apply kB|((first|refine kc (N:=168) ?_|refine kj (N:=168) kt46 ?_|apply kD|apply kE|refine kx hV ?_);simp +decide only[go_sem,t1,t3,lngRow,Ent.row])|(apply kG;(simp +decide only[go_sem,t1,t3,lngRow,Ent.row];rfl);all_goals(intro hcnd;try exact kz hcnd))))
   refine dw_slot 4 _ (DLe.own_ _ _ _) ?_
   apply kF;simp +decide only[go_sem]
  ·have hvp:0<(allE d.lex id).length:=List.length_pos_iff.2 hv
   have t3:((0:Int)<((allE d.lex id).length:Int))=True:=by simp;omega
   rw[if_neg hv]
   have hHs:=rHeads_D x hd (allE d.lex id) (by omega)
   simp only[lngRow]at hHs
   have hJ:=rJoined_D (d.heads (allE d.lex id)) (by rw[heads_len];omega) (fun s hs=>by have:=heads_le hd (allE d.lex id) s hs;omega)
   have hjl:=joinR_le3 (heads_le hd (allE d.lex id))
   rw[heads_len]at hjl
   have h10:(allE d.lex id).length*(400+2)≤5*(400+2):=Nat.mul_le_mul_right _ (by omega)
   generalize joinR (d.heads (allE d.lex id))=jj at hJ hjl ⊢
   have z1:(#[(32:UInt8),32,118,97,114,105,97,110,116,115,58,32].size+jj.size≤maxLen)=True:=mx (by simp only[List.size_toArray,List.length_cons,List.length_nil];omega)
   (repeat'(first|apply kA|apply kB|((first|refine kc (N:=168) ?_|refine kj (N:=168) kt46 ?_|apply kD|apply kE|refine kx hV ?_|refine kx hHs ?_|refine kx hJ ?_);simp +decide only[go_sem,t1,t3,r1,z1,lngRow,Ent.row])|(apply kG;(simp +decide only[go_sem,t1,t3,r1,z1,lngRow,Ent.row];rfl);all_goals(intro hcnd;try exact kz hcnd))))
   refine dw_slot 4 _ (DLe.own_ _ _ _) ?_
   apply kF;simp +decide only[go_sem]
   simp only[strs,List.map_append,List.map_cons,List.map_nil]
   rfl
end Go.Proofs.YtehdkccjaeckhaaGreatDoor
namespace Go.Dl
open Go.RowKit
noncomputable section
def PR.len:PR→Nat
 | .leaf=>0
 | .run l t=>l.length+t.len
 | .bl _ t=>1+t.len
 | .ex _ t=>1+t.len
 | .dia _ _ t=>2+t.len
 | .here _ t=>t.len
 | .two _ t _ _=>1+t.len
 | .thr _ t _ _ _ _=>1+t.len
def isExtract(o:Option Oper):Bool:=match o with
 | some o=>match o.op with
  | .extract _ _=>true
  | _=>false
 | none=>false
def apartAt(ops:List Oper)(i j:Nat):Bool:=match ops[i]?,ops[j]? with
 | some oi,some oj=>oi.apart ops.toArray oj
 | _,_=>false
def PR.ok(ops:List Oper):PR→Array Bool→Bool
 | .leaf,listed=>(Region.ready .any ops.toArray listed).isEmpty
 | .run l t,listed=>runOk ops l listed&&t.ok ops (afterA l listed)
 | .bl i t,listed=>Region.free .any ops.toArray listed i&&(Region.ready .any ops.toArray listed).contains i&&(ops[i]?).isSome&&t.ok ops (listed.setIfInBounds i true)
 | .ex i t,listed=>Region.free .any ops.toArray listed i&&(Region.ready .any ops.toArray listed).contains i&&isExtract ops[i]? &&t.ok ops (listed.setIfInBounds i true)
 | .dia i j t,listed=>(Region.ready .any ops.toArray listed== [i,j])&&(Region.ready .any ops.toArray (listed.setIfInBounds i true)== [j])&&(Region.ready .any ops.toArray (listed.setIfInBounds j true)== [i])&&apartAt ops i j&&(i !=j)&&t.ok ops ((listed.setIfInBounds i true).setIfInBounds j true)
 | .here a t,listed=>(listed==a)&&t.ok ops a
 | .two i t j u,listed=>(Region.ready .any ops.toArray listed== [i,j])&&(ops[i]?).isSome&&(ops[j]?).isSome&&(t.len==u.len)&&t.ok ops (listed.setIfInBounds i true)&&u.ok ops (listed.setIfInBounds j true)
 | .thr i t j u k v,listed=>(Region.ready .any ops.toArray listed== [i,j,k])&&(ops[i]?).isSome&&(ops[j]?).isSome&&(ops[k]?).isSome&&(t.len==u.len)&&(t.len==v.len)&&t.ok ops (listed.setIfInBounds i true)&&u.ok ops (listed.setIfInBounds j true)&&v.ok ops (listed.setIfInBounds k true)
section
variable {P : Program}
theorem blind_extract{s:DS}{o:Oper}{x:Operand}{i:Nat}{ds:List D}{d:D}(ho:o.op= .extract x i)(hx:s.ev x= .tup ds)(hi:ds[i]? =some d):Blind P s o d:=fun X E a w hE=>by
 have hv:=hE.ev x
 rw[hx]at hv
 generalize he:a.eval x=v at hv
 cases hv with
 | tup _ vs hl hr=>
  have hlt:i<vs.size:=by rw[hl];exact(List.getElem?_eq_some_iff.1 hi).1
  exact⟨vs[i],fun w'=>by simp[execOp,ho,he,Instr.extract,hlt],hr i d _ hi (Array.getElem?_eq_getElem hlt)⟩
theorem extract_blind{s:DS}{o:Oper}{d:D}(h:isExtract (some o)=true)(hq:QD P s.ev s.bx o.op (· =d)):Blind P s o d:=by
 obtain⟨dst,op,ty,pos,aft,g⟩:=o
 cases op with
 | extract x i=>
  simp only[QD]at hq
  split at hq
  ·rename_i ds hx
   split at hq
   ·rename_i d' hd
    subst hq
    exact blind_extract rfl hx hd
   ·exact hq.elim
  ·exact hq.elim
 | _=>simp[isExtract]at h
theorem wk_AL{ops:List Oper}{o:Oper}{l:List (Mode×Oper)}{s:DS}{K:DS→Prop}(h:wk P (ops.map (·.dst)) ((.light,o)::l) s K):AL P ops o s fun s'=>wk P (ops.map (·.dst)) l s' K:=by
 have h:=wk_cons h
 unfold GIs at h
 unfold AL
 split at h
 ·rename_i hw
  simp only[hw]
  cases h with
  | light d hq hk=>exact⟨d,hq,hk⟩
 ·rename_i hw
  simp only[hw]
  exact h
 ·exact h.elim
theorem pr_ok{ops:List Oper}{hd:List Nat}{N:Nat}(hb:dstB ops N=true)(hs:Region.noSelect ops.toArray=true){K:DS→Prop}: ∀(t:PR) (listed:Array Bool) (s:DS),t.ok ops listed=true→t.wk P ops hd (ops.map (·.dst)) s K→AnyOk P ops N K t.len listed s
 | .leaf,listed,s,hc,h=>any_done (by simpa[PR.ok]using hc) h
 | .run l t,listed,s,hc,h=>by
  simp only[PR.ok,Bool.and_eq_true]at hc
  exact run_ok hb l listed s hc.1 h (fun s' h'=>pr_ok hb hs t _ s' hc.2 h') (run_some l listed hc.1)
 | .bl i t,listed,s,hc,h=>by
  simp only[PR.ok,Bool.and_eq_true]at hc
  obtain⟨⟨⟨h1,h2⟩,h3⟩,h4⟩:=hc
  have hl:(PR.bl i t).len=t.len+1:=by simp[PR.len];omega
  rw[hl]
  cases ho:ops[i]? with
  | none=>rw[ho]at h3;cases h3
  | some o=>
   simp only[PR.wk,pickM,ho]at h
   have h7:=wk_cons h
   unfold GIs at h7
   split at h7
   ·rename_i hw
    cases h7 with
    | blind d hbl hk=>exact any_blind hb ho hs h1 h2 hw hbl (pr_ok hb hs t _ _ h4 hk)
   ·rename_i hw
    exact any_not hb ho hs h1 h2 hw (pr_ok hb hs t _ _ h4 h7)
   ·exact h7.elim
 | .ex i t,listed,s,hc,h=>by
  simp only[PR.ok,Bool.and_eq_true]at hc
  obtain⟨⟨⟨h1,h2⟩,h3⟩,h4⟩:=hc
  have hl:(PR.ex i t).len=t.len+1:=by simp[PR.len];omega
  rw[hl]
  cases ho:ops[i]? with
  | none=>rw[ho]at h3;cases h3
  | some o=>
   rw[ho]at h3
   simp only[PR.wk,pickM,ho]at h
   have h7:=wk_cons h
   unfold GIs at h7
   split at h7
   ·rename_i hw
    cases h7 with
    | light d hq hk=>exact any_blind hb ho hs h1 h2 hw (extract_blind h3 hq) (pr_ok hb hs t _ _ h4 hk)
   ·rename_i hw
    exact any_not hb ho hs h1 h2 hw (pr_ok hb hs t _ _ h4 h7)
   ·exact h7.elim
 | .here a t,listed,s,hc,h=>by
  simp only[PR.ok,Bool.and_eq_true,beq_iff_eq]at hc
  obtain⟨rfl,h2⟩:=hc
  exact pr_ok hb hs t _ s h2 h
 | .dia i j t,listed,s,hc,h=>by
  simp only[PR.ok,Bool.and_eq_true,beq_iff_eq,bne_iff_ne]at hc
  obtain⟨⟨⟨⟨⟨h1,h2⟩,h3⟩,h4⟩,hne⟩,h5⟩:=hc
  have hl:(PR.dia i j t).len=(t.len+1)+1:=by simp[PR.len];omega
  rw[hl]
  unfold apartAt at h4
  split at h4
  ·rename_i oi oj hi hj
   simp only[PR.wk,pickM,hi,hj]at h
   have g1:AL P ops oi s fun s1=>AL P ops oj s1 fun s2=>AnyOk P ops N K t.len ((listed.setIfInBounds i true).setIfInBounds j true) s2:=AL_mono (fun s1 q1=>AL_mono (fun s2 q2=>pr_ok hb hs t _ s2 h5 q2) (wk_AL q1)) (wk_AL h)
   have g2:=diamond h4 g1
   refine any_each hb h1 (by simp) fun k hk=>?_
   have hk':k=i∨k=j:=by simpa using hk
   rcases hk' with rfl|rfl
   ·exact⟨oi,hi,AL_guard (AL_mono (fun s1 q1=>any_each hb h2 (by simp) fun q hq=>by
     obtain rfl:q=j:=by simpa using hq
     exact⟨oj,hj,AL_guard q1⟩) g1)⟩
   ·refine⟨oj,hj,AL_guard (AL_mono (fun s1 q1=>any_each hb h3 (by simp) fun q hq=>?_) g2)⟩
    obtain rfl:q=i:=by simpa using hq
    rw[Array.setIfInBounds_comm _ _ hne]at q1
    exact⟨oi,hi,AL_guard q1⟩
  ·cases h4
 | .two i t j u,listed,s,hc,h=>by
  simp only[PR.ok,Bool.and_eq_true,beq_iff_eq]at hc
  obtain⟨⟨⟨⟨⟨h1,h2⟩,h3⟩,h4⟩,h5⟩,h6⟩:=hc
  have hl:(PR.two i t j u).len=t.len+1:=by simp[PR.len];omega
  rw[hl]
  refine any_each hb h1 (by simp) fun k hk=>?_
  have hk':k=i∨k=j:=by simpa using hk
  rcases hk' with rfl|rfl
  ·cases ho:ops[k]? with
   | none=>rw[ho]at h2;cases h2
   | some o=>
    have h7:=h.1
    simp only[pickH,ho]at h7
    exact⟨o,rfl,guardS_mono (fun s' h'=>pr_ok hb hs t _ s' h5 h') (wk_guardS h7)⟩
  ·cases ho:ops[k]? with
   | none=>rw[ho]at h3;cases h3
   | some o=>
    have h7:=h.2
    simp only[pickH,ho]at h7
    refine⟨o,rfl,guardS_mono (fun s' h'=>?_) (wk_guardS h7)⟩
    rw[h4]
    exact pr_ok hb hs u _ s' h6 h'
 | .thr i t j u k v,listed,s,hc,h=>by
  simp only[PR.ok,Bool.and_eq_true,beq_iff_eq]at hc
  obtain⟨⟨⟨⟨⟨⟨⟨⟨h1,h2⟩,h3⟩,h3'⟩,h4⟩,h4'⟩,h5⟩,h6⟩,h6'⟩:=hc
  have hl:(PR.thr i t j u k v).len=t.len+1:=by simp[PR.len];omega
  rw[hl]
  refine any_each hb h1 (by simp) fun q hq=>?_
  have hq':q=i∨q=j∨q=k:=by simpa using hq
  rcases hq' with rfl|rfl|rfl
  ·cases ho:ops[q]? with
   | none=>rw[ho]at h2;cases h2
   | some o=>
    have h7:=h.1
    simp only[pickH,ho]at h7
    exact⟨o,rfl,guardS_mono (fun s' h'=>pr_ok hb hs t _ s' h5 h') (wk_guardS h7)⟩
  ·cases ho:ops[q]? with
   | none=>rw[ho]at h3;cases h3
   | some o=>
    have h7:=h.2.1
    simp only[pickH,ho]at h7
    refine⟨o,rfl,guardS_mono (fun s' h'=>?_) (wk_guardS h7)⟩
    rw[h4]
    exact pr_ok hb hs u _ s' h6 h'
  ·cases ho:ops[q]? with
   | none=>rw[ho]at h3';cases h3'
   | some o=>
    have h7:=h.2.2
    simp only[pickH,ho]at h7
    refine⟨o,rfl,guardS_mono (fun s' h'=>?_) (wk_guardS h7)⟩
    rw[h4']
    exact pr_ok hb hs v _ s' h6' h'
def checkPR(ops:List Oper)(N:Nat)(t:PR):Bool:=
 dstB ops N&&Region.noSelect ops.toArray&&t.ok ops (Array.replicate ops.length false)&&(t.len==ops.length)
theorem dw_treeR{id:Nat}{l:List Oper}{s:DS}{Q:Exit→DS→Prop}{N:Nat}(hd:List Nat)(t:PR)(hm:P.follows .mixedOrders=true)(hn:s.n=N)(hc:checkPR l N t=true)
  (h:t.wk P l hd (l.map (·.dst)) s (Q .normal)):DW P (.region id l.toArray true) s Q:=by
 simp only[checkPR,Bool.and_eq_true,beq_iff_eq]at hc
 obtain⟨⟨⟨h1,h2⟩,h3⟩,h4⟩:=hc
 subst hn
 refine dw_any h1 hm ?_
 have:=pr_ok h1 h2 t _ s h3 h
 rwa [h4]at this
end
end
end Go.Dl
namespace Go.Dl
open Go.RowKit
noncomputable section
def edgesOf(o:Oper):List Nat:=(o.after.toList.filter fun e=>Region.binds .any e).map (·.on)
def readyG(m:Nat):List (List Nat)→Nat→List Nat
 | [],_=> []
 | l::r,i=>if(!m.testBit i&&l.all fun k=>m.testBit k)=true then i::readyG m r (i+1)else readyG m r (i+1)
def readyM(E:List (List Nat))(m:Nat):List Nat:=readyG m E 0
def arrOf(n m:Nat):Array Bool:=((List.range n).map fun i=>m.testBit i).toArray
theorem arrOf_get{n m i:Nat}(d:Bool)(h:i<n):(arrOf n m).getD i d=m.testBit i:=by
 simp[arrOf,Array.getD,h]
theorem arrOf_set{n m i:Nat}(h:i<n):(arrOf n m).setIfInBounds i true=arrOf n (m ||| 2 ^ i):=by
 apply Array.ext
 ·simp[arrOf]
 ·intro j h1 h2
  have hj:j<n:=by simpa[arrOf]using h2
  rw[Array.getElem_setIfInBounds (by simpa[arrOf]using hj)]
  by_cases hij:i=j
  ·subst hij;simp[arrOf,Nat.testBit_or,Nat.testBit_two_pow]
  ·simp[arrOf,Nat.testBit_or,Nat.testBit_two_pow,hij]
theorem arrOf_zero(n:Nat):Array.replicate n false=arrOf n 0:=by
 apply Array.ext
 ·simp[arrOf]
 ·intro j h1 h2
  simp[arrOf]
theorem ready_mask{ops:List Oper}{E:List (List Nat)}(hE:ops.map edgesOf=E)(hn:E.all (fun l=>l.all fun k=>decide (k<ops.length))=true)(m:Nat):Region.ready .any ops.toArray (arrOf ops.length m)=readyM E m:=by
 subst hE
 have key: ∀(suf:List Oper) (k:Nat),(∀(i:Nat) o,suf[i]? =some o→ops[k+i]? =some o)→k+suf.length=ops.length→
   ((List.range' k suf.length).filter fun i=> !(arrOf ops.length m).getD i true&&((ops.toArray[i]?).map fun o:Oper=>o.after.all fun e=> !Region.binds .any e||(arrOf ops.length m).getD e.on false).getD false)=readyG m (suf.map edgesOf) k:=by
  intro suf
  induction suf with
  | nil=>intro k _ _;rfl
  | cons o suf ih=>
   intro k hs hl
   have hk:k<ops.length:=by simp at hl;omega
   have ho:ops[k]? =some o:=hs 0 o rfl
   have hb:(o.after.all fun e=> !Region.binds .any e||(arrOf ops.length m).getD e.on false)=(edgesOf o).all fun k=>m.testBit k:=by
    have h1:(edgesOf o).all (fun k=>decide (k<ops.length))=true:=by
     rw[List.all_eq_true]at hn
     exact hn _ (List.mem_map.2 ⟨o,List.mem_of_getElem? ho,rfl⟩)
    unfold edgesOf at h1 ⊢
    rw[← Array.all_toList]
    generalize o.after.toList=l at h1 ⊢
    induction l with
    | nil=>rfl
    | cons e l ih2=>
     cases hbe:Region.binds .any e
     ·simp only[List.filter_cons,hbe,Bool.false_eq_true,if_false,List.all_cons,Bool.not_false,Bool.true_or,Bool.true_and]at h1 ⊢
      exact ih2 h1
     ·simp only[List.filter_cons,hbe,if_true,List.map_cons,List.all_cons,Bool.and_eq_true,decide_eq_true_eq,Bool.not_true,Bool.false_or]at h1 ⊢
      rw[arrOf_get _ h1.1,ih2 h1.2]
   rw[List.length_cons,List.range'_succ,List.filter_cons,List.map_cons,readyG]
   have ih':=ih (k+1) (fun i o' h=>by rw[Nat.add_assoc,Nat.add_comm 1 i];exact hs (i+1) o' (by simpa using h)) (by simp at hl;omega)
   simp only[List.getElem?_toArray]at ih' ⊢
   rw[ih',arrOf_get _ hk,ho]
   simp only[Option.map_some,Option.getD_some,hb]
 have h:=key ops 0 (fun i o h=>by simpa using h) (by simp)
 unfold Region.ready readyM
 rw[← h]
 simp only[List.size_toArray,List.range_eq_range']
def runM(E:List (List Nat)):List Nat→Nat→Bool
 | [],_=>true
 | i::l,m=>(readyM E m== [i])&&runM E l (m ||| 2 ^ i)
def afterM:List Nat→Nat→Nat
 | [],m=>m
 | i::l,m=>afterM l (m ||| 2 ^ i)
def ltB(n:Nat)(l:List Nat):Bool:=l.all fun i=>decide (i<n)
def PR.okM(ops:List Oper)(E:List (List Nat)):PR→Nat→Bool
 | .leaf,m=>(readyM E m).isEmpty
 | .run l t,m=>ltB ops.length l&&(runM E l m&&t.okM ops E (afterM l m))
 | .bl i t,m=>decide (i<ops.length)&&(Region.free .any ops.toArray (arrOf ops.length m) i&&(readyM E m).contains i&&(ops[i]?).isSome&&t.okM ops E (m ||| 2 ^ i))
 | .ex i t,m=>decide (i<ops.length)&&(Region.free .any ops.toArray (arrOf ops.length m) i&&(readyM E m).contains i&&isExtract ops[i]? &&t.okM ops E (m ||| 2 ^ i))
 | .dia i j t,m=>decide (i<ops.length)&&decide (j<ops.length)&&((readyM E m== [i,j])&&(readyM E (m ||| 2 ^ i)== [j])&&(readyM E (m ||| 2 ^ j)== [i])&&apartAt ops i j&&(i !=j)&&t.okM ops E ((m ||| 2 ^ i) ||| 2 ^ j))
 | .here a t,m=>(arrOf ops.length m==a)&&t.okM ops E m
 | .two i t j u,m=>decide (i<ops.length)&&decide (j<ops.length)&&((readyM E m== [i,j])&&(ops[i]?).isSome&&(ops[j]?).isSome&&(t.len==u.len)&&t.okM ops E (m ||| 2 ^ i)&&u.okM ops E (m ||| 2 ^ j))
 | .thr i t j u k v,m=>decide (i<ops.length)&&decide (j<ops.length)&&decide (k<ops.length)&&((readyM E m== [i,j,k])&&(ops[i]?).isSome&&(ops[j]?).isSome&&(ops[k]?).isSome&&(t.len==u.len)&&(t.len==v.len)&&t.okM ops E (m ||| 2 ^ i)&&u.okM ops E (m ||| 2 ^ j)&&v.okM ops E (m ||| 2 ^ k))
theorem run_mask{ops:List Oper}{E:List (List Nat)}(hE:ops.map edgesOf=E)(hn:E.all (fun l=>l.all fun k=>decide (k<ops.length))=true): ∀(l:List Nat) (m:Nat),ltB ops.length l=true→runM E l m=true→runOk ops l (arrOf ops.length m)=true∧afterA l (arrOf ops.length m)=arrOf ops.length (afterM l m)
 | [],m,_,_=>⟨rfl,rfl⟩
 | i::l,m,hl,h=>by
  simp only[ltB,List.all_cons,Bool.and_eq_true,decide_eq_true_eq]at hl
  simp only[runM,Bool.and_eq_true]at h
  have ih:=run_mask hE hn l _ (by simpa[ltB]using hl.2) h.2
  simp only[runOk,afterA,afterM,arrOf_set hl.1,ready_mask hE hn,h.1,Bool.true_and]
  exact ih
theorem pr_mask{ops:List Oper}{E:List (List Nat)}(hE:ops.map edgesOf=E)(hn:E.all (fun l=>l.all fun k=>decide (k<ops.length))=true): ∀(t:PR) (m:Nat),t.okM ops E m=true→t.ok ops (arrOf ops.length m)=true
 | .leaf,m,h=>by simpa only[PR.ok,PR.okM,ready_mask hE hn]using h
 | .run l t,m,h=>by
  simp only[PR.okM,Bool.and_eq_true]at h
  have h1:=run_mask hE hn l m h.1 h.2.1
  simp only[PR.ok,h1.1,h1.2,Bool.true_and]
  exact pr_mask hE hn t _ h.2.2
 | .bl i t,m,h=>by
  simp only[PR.okM,Bool.and_eq_true,decide_eq_true_eq]at h
  simp only[PR.ok,ready_mask hE hn,arrOf_set h.1,h.2.1.1.1,h.2.1.1.2,h.2.1.2,Bool.true_and]
  exact pr_mask hE hn t _ h.2.2
 | .ex i t,m,h=>by
  simp only[PR.okM,Bool.and_eq_true,decide_eq_true_eq]at h
  simp only[PR.ok,ready_mask hE hn,arrOf_set h.1,h.2.1.1.1,h.2.1.1.2,h.2.1.2,Bool.true_and]
  exact pr_mask hE hn t _ h.2.2
 | .dia i j t,m,h=>by
  simp only[PR.okM,Bool.and_eq_true,decide_eq_true_eq]at h
  obtain⟨⟨hi,hj⟩,⟨⟨⟨⟨h1,h2⟩,h3⟩,h4⟩,h5⟩,h6⟩:=h
  simp only[PR.ok,ready_mask hE hn,arrOf_set hi,arrOf_set hj,h1,h2,h3,h4,h5,Bool.true_and]
  exact pr_mask hE hn t _ h6
 | .here a t,m,h=>by
  simp only[PR.okM,Bool.and_eq_true,beq_iff_eq]at h
  obtain⟨rfl,h2⟩:=h
  simp only[PR.ok,BEq.rfl,Bool.true_and]
  exact pr_mask hE hn t _ h2
 | .two i t j u,m,h=>by
  simp only[PR.okM,Bool.and_eq_true,decide_eq_true_eq]at h
  obtain⟨⟨hi,hj⟩,⟨⟨⟨⟨h1,h2⟩,h3⟩,h4⟩,h5⟩,h6⟩:=h
  simp only[PR.ok,ready_mask hE hn,arrOf_set hi,arrOf_set hj,h1,h2,h3,h4,Bool.true_and,pr_mask hE hn t _ h5,pr_mask hE hn u _ h6]
 | .thr i t j u k v,m,h=>by
  simp only[PR.okM,Bool.and_eq_true,decide_eq_true_eq]at h
  obtain⟨⟨⟨hi,hj⟩,hk⟩,⟨⟨⟨⟨⟨⟨⟨h1,h2⟩,h3⟩,h4⟩,h5⟩,h6⟩,h7⟩,h8⟩,h9⟩:=h
  simp only[PR.ok,ready_mask hE hn,arrOf_set hi,arrOf_set hj,arrOf_set hk,h1,h2,h3,h4,h5,h6,Bool.true_and,pr_mask hE hn t _ h7,pr_mask hE hn u _ h8,pr_mask hE hn v _ h9]
def checkPM(ops:List Oper)(N:Nat)(E:List (List Nat))(t:PR):Bool:=
 dstB ops N&&Region.noSelect ops.toArray&&(E.all fun l=>l.all fun k=>decide (k<ops.length))&&t.okM ops E 0&&(t.len==ops.length)
theorem dw_treeM{P:Program}{id:Nat}{l:List Oper}{s:DS}{Q:Exit→DS→Prop}{N:Nat}(hd:List Nat)(E:List (List Nat))(t:PR)(hm:P.follows .mixedOrders=true)(hn:s.n=N)(hE:l.map edgesOf=E)(hc:checkPM l N E t=true)
  (h:t.wk P l hd (l.map (·.dst)) s (Q .normal)):DW P (.region id l.toArray true) s Q:=by
 simp only[checkPM,Bool.and_eq_true]at hc
 obtain⟨⟨⟨⟨h1,h2⟩,h3⟩,h4⟩,h5⟩:=hc
 refine dw_treeR hd t hm hn ?_ h
 simp only[checkPR,Bool.and_eq_true]
 rw[arrOf_zero]
 exact⟨⟨⟨h1,h2⟩,pr_mask hE h3 t 0 h4⟩,h5⟩
end
end Go.Dl
namespace Go.Proofs.YtehdkccjaeckhaaGreatDoor
open Go.Dl
open S (usort)
attribute [local irreducible] DW DCalls ECalls wk IW
def Dic.lastR(d:Dic)(k:Nat):Int:=if k=0 then 0 else d.lastI k
theorem lastR_succ{d:Dic}{k:Nat}{e:Ent}(h:d.ord[k]? =some e):d.lastR (k+1)=d.sect e:=by
 unfold Dic.lastR;rw[if_neg (by omega)];exact lastI_succ h
theorem rLines_D(x:LX){d:Dic}(hd:OkD d):DCalls Tryz.prog 25 [.agg (lngRow x d)] (dv (.sl 1 (strs d.lines))):=by
 have hmax:maxLen=9223372036854775807:=rfl
 have hf:=hd.few
 have hol:=ord_len d
 have hO:=rOrder56_D x hd
 simp only[lngRow]at hO
 refine kd (N:=65) (rs:= [.tmp 2]) Tryz.func25 ?_
 (repeat'(first|apply kA|apply kB|((first|refine kc (N:=65) ?_|refine kj (N:=65) kt53 ?_|apply kD|apply kE|refine kx hO ?_);simp +decide only[go_sem,lngRow])|(apply kG;(simp +decide only[go_sem,lngRow];rfl);all_goals(intro hcnd;try exact kz hcnd))|((first|apply kH|apply kI)<;>(intro hcnd;simp +decide only[go_sem,hcnd,lngRow]))))
 refine dw_own 3 3 1 (by simp +decide only[go_sem]) ?_
 refine dw_rng0 d.ord (fun k=>kn 65 [(1,.one (.bx 1 9 0 0)),(3,.one (.own 3 1 (strs (d.lineP k)))),(4,dv (.sl 1 (ints (d.ord.map (·.id))))),(5,dv (li (d.lastR k))),(6,dv (li k))] (ml [(1,[lngRow x d])])) (by omega)
  (kM rfl (by simp +decide only[go_sem,lngRow,lineP_zero,List.map_nil,List.length_cons,List.length_nil];exact .inl rfl) (by simp +decide only[go_sem,lngRow])) ?_ ?_
 ·intro k e hy hj hm htk hlt hw
  have hml:=(ord_perm d).mem_iff.1 hm
  have hG:=rGet_D d.lex e.id (by omega)
  rw[getE_up hd.up hml]at hG
  have hS:=rSpelled_D x hd e.form (by have:=hd.frm e hml;omega)
  have hC:=rSection_D x.nm d.units d.letters (d.sp e.form) (by have:=hd.llen;omega) hd.lll (by have:=sp_sz hd hml;omega)
  have hA:=rArticle_D x hd e.id
  have hst:=lineP_succ hy
  have hsi:=lastR_succ hy
  have hge:=sect_ge d e
  have hse:sectE d.letters (d.sp e.form)=d.sect e:=rfl
  rw[hse]at hC
  have hpl:=lineP_len hd k (by omega)
  have hal:=article_len hd e.id
  have hx:(ints (d.ord.map (·.id)))[k]? =some [li e.id]:=by simp[ints,hy]
  have hlast:(k=0→d.lastI k≠d.sect e)∧(k≠0→d.lastR k=d.lastI k):=by
   constructor
   ·rintro rfl;rw[lastI_zero];omega
   ·intro h;unfold Dic.lastR;rw[if_neg h]
  simp only[lngRow,Ent.row,ortRow]at hS hC hA hG
  rw[hst,hsi]
  generalize d.article e.id=art at hA hal ⊢
  unfold Dic.sline
  (repeat'(first|apply kA|apply kB|((first|refine kc (N:=65) ?_|refine kj (N:=65) kt53 ?_|apply kD|apply kE);simp +decide only[go_sem,hlt,hw,hx,lngRow,Ent.row])|(apply kG;(simp +decide only[go_sem,hlt,hw,hx,lngRow,Ent.row];rfl);all_goals(intro hcnd;try exact kz hcnd))|((first|apply kH|apply kI)<;>(intro hcnd;simp +decide only[go_sem,hcnd,hlt,hw,hx,lngRow,Ent.row]))))
  refine dw_afterN (fun _:Unit=>kn 65 [(1,.one (.bx 1 9 0 0)),(3,.one (.own 3 1 (strs (d.lineP k)))),(4,dv (.sl 1 (ints (d.ord.map (·.id))))),(5,dv (li (d.lastR k))),(6,dv (li k)),(7,.one (.bx 7 8 0 0))] (ml [(1,[lngRow x d]),(7,[e.row])])) (fun _=>True) ?_ ?_
  ·apply dw_treeM (id:=7) (N:=65) [] [[],[0],[],[],[2,3],[4],[1,5],[6],[7],[7],[],[10,8,6,0,1,2,3,4,5,6,7,8,10],[9,11,0,1,2,3,4,5,6,7,8,9,10,11]] (.bl 0 (.bl 2 (.bl 3 (.thr 1 (.two 4 (.two 5 (.two 6 (.bl 7 (.ex 8 (.ex 9 (.run [10,11,12] .leaf)))) 10 (.run [6,7] (.ex 8 (.ex 9 (.run [11,12] .leaf))))) 10 (.run [5,6,7] (.ex 8 (.ex 9 (.run [11,12] .leaf))))) 10 (.run [4,5,6,7] (.ex 8 (.ex 9 (.run [11,12] .leaf))))) 4 (.thr 1 (.two 5 (.two 6 (.bl 7 (.ex 8 (.ex 9 (.run [10,11,12] .leaf)))) 10 (.run [6,7] (.ex 8 (.ex 9 (.run [11,12] .leaf))))) 10 (.run [5,6,7] (.ex 8 (.ex 9 (.run [11,12] .leaf))))) 5 (.two 1 (.two 6 (.bl 7 (.ex 8 (.ex 9 (.run [10,11,12] .leaf)))) 10 (.run [6,7] (.ex 8 (.ex 9 (.run [11,12] .leaf))))) 10 (.run [1,6,7] (.ex 8 (.ex 9 (.run [11,12] .leaf))))) 10 (.dia 1 5 (.run [6,7] (.ex 8 (.ex 9 (.run [11,12] .leaf)))))) 10 (.two 1 (.run [4,5,6,7] (.ex 8 (.ex 9 (.run [11,12] .leaf)))) 4 (.dia 1 5 (.run [6,7] (.ex 8 (.ex 9 (.run [11,12] .leaf))))))))));kernel_rfl;rfl;kernel_rfl;kernel_rfl
   simp only[List.append_eq,List.cons_append,List.nil_append,List.map_cons,List.map_nil]
   simp +decide only[go_sem,hx,hy,Option.map_some]
   (repeat'(first|apply And.intro|(refine kw hG ?_;simp +decide only[go_sem,hx,hy,Option.map_some,lngRow,Ent.row])|(refine kO (hG) (kP rfl) ?_;simp +decide only[go_sem,hx,hy,Option.map_some,lngRow,Ent.row])))
   all_goals exact⟨(),kM rfl (by simp +decide only[go_sem,lngRow,Ent.row]) (by simp +decide only[go_sem,lngRow,Ent.row])⟩
  rintro _ _
  have hgo:(∃ts:Bool,(ts=true∧k=0)∨(ts=false∧k≠0∧d.lastI k≠d.sect e))∨(k≠0∧d.lastI k=d.sect e):=by
   by_cases h0:k=0
   ·exact .inl ⟨true,.inl ⟨rfl,h0⟩⟩
   ·by_cases h1:d.lastI k=d.sect e
    ·exact .inr ⟨h0,h1⟩
    ·exact .inl ⟨false,.inr ⟨rfl,h0,h1⟩⟩
  rcases hgo with⟨ts,hts⟩|⟨h0,h1⟩
  rotate_left
  ·rw[if_pos h1,List.nil_append]
   have t0:((k:Int)==0)=false:=by rw[beq_eq_false_iff_ne];omega
   have t1:(d.sect e !=d.lastR k)=false:=by rw[hlast.2 h0,h1];simp
   have r1:(((d.lineP k).length+art.length)*16≤140737488355328)=True:=eq_true (by omega)
   (repeat'(first|apply kA|apply kB|((first|refine kc (N:=65) ?_|refine kj (N:=65) kt53 ?_|apply kD|apply kE|refine kx hS ?_|refine kx hC ?_|refine kx hA ?_);simp +decide only[go_sem,hlt,hw,hx,t0,t1,r1,lngRow,Ent.row])|(apply kG;(simp +decide only[go_sem,hlt,hw,hx,t0,t1,r1,lngRow,Ent.row];rfl);all_goals(intro hcnd;try exact kz hcnd))|((first|apply kH|apply kI)<;>(intro hcnd;simp +decide only[go_sem,hcnd,hlt,hw,hx,t0,t1,r1,lngRow,Ent.row]))))
   exact kM rfl (by simp +decide only[go_sem,lngRow,Ent.row,List.map_append]) (by simp +decide only[go_sem,lngRow,Ent.row])
  have hne:d.lastI k≠d.sect e:=by
   rcases hts with⟨-,h0⟩|⟨-,-,h1⟩
   ·exact hlast.1 h0
   ·exact h1
  rw[if_neg hne]
  have r1:(((d.lineP k).length+1)*16≤140737488355328)=True:=eq_true (by omega)
  have r2:(((d.lineP k).length+1+art.length)*16≤140737488355328)=True:=eq_true (by omega)
  have t0:((k:Int)==0)=ts:=by
   rcases hts with⟨rfl,h0⟩|⟨rfl,h0,-⟩
   ·rw[beq_iff_eq];omega
   ·rw[beq_eq_false_iff_ne];omega
  have t1:ts=false→(d.sect e !=d.lastR k)=true:=by
   rcases hts with⟨rfl,h0⟩|⟨rfl,h0,h1⟩
   ·intro h;cases h
   ·intro _;rw[hlast.2 h0];simpa using fun h=>h1 h.symm
  clear hts
  by_cases h2:0≤d.sect e
  ·rw[if_pos h2]
   have hH:=rHead_D x.nm d.units d.letters (d.sect e) (by have:=hd.llen;omega) hd.lne
   have hhl:=headS_le hd.lsz (d.sect e)
   simp only[ortRow]at hH
   have t3:(0≤d.sect e)=True:=eq_true h2
   generalize headS d.letters (d.sect e)=hh at hH hhl ⊢
   have z1:(#[(61:UInt8),32].size+hh.size≤maxLen)=True:=mx (by simp only[List.size_toArray,List.length_cons,List.length_nil];omega)
   have z2:(#[(61:UInt8),32].size+hh.size+ #[(32:UInt8),61].size≤maxLen)=True:=mx (by simp only[List.size_toArray,List.length_cons,List.length_nil];omega)
   cases ts
   ·have t1':=t1 rfl
    (repeat'(first|apply kA|apply kB|((first|refine kc (N:=65) ?_|refine kj (N:=65) kt53 ?_|apply kD|apply kE|refine kx hS ?_|refine kx hC ?_|refine kx hA ?_|refine kx hH ?_);simp +decide only[go_sem,hlt,hw,hx,t0,t1',t3,r1,r2,z1,z2,lngRow,Ent.row,List.length_append,List.length_map,List.length_cons,List.length_nil])|(apply kG;(simp +decide only[go_sem,hlt,hw,hx,t0,t1',t3,r1,r2,z1,z2,lngRow,Ent.row,List.length_append,List.length_map,List.length_cons,List.length_nil];rfl);all_goals(intro hcnd;try exact kz hcnd))|((first|apply kH|apply kI)<;>(intro hcnd;simp +decide only[go_sem,hcnd,hlt,hw,hx,t0,t1',t3,r1,r2,z1,z2,lngRow,Ent.row,List.length_append,List.length_map,List.length_cons,List.length_nil]))))
    exact kM rfl (by simp +decide only[go_sem,lngRow,Ent.row,List.map_append,List.map_cons,List.map_nil,List.append_assoc,List.cons_append,List.nil_append,eqL,eqR]) (by simp +decide only[go_sem,lngRow,Ent.row])
   ·(repeat'(first|apply kA|apply kB|((first|refine kc (N:=65) ?_|refine kj (N:=65) kt53 ?_|apply kD|apply kE|refine kx hS ?_|refine kx hC ?_|refine kx hA ?_|refine kx hH ?_);simp +decide only[go_sem,hlt,hw,hx,t0,t3,r1,r2,z1,z2,lngRow,Ent.row,List.length_append,List.length_map,List.length_cons,List.length_nil])|(apply kG;(simp +decide only[go_sem,hlt,hw,hx,t0,t3,r1,r2,z1,z2,lngRow,Ent.row,List.length_append,List.length_map,List.length_cons,List.length_nil];rfl);all_goals(intro hcnd;try exact kz hcnd))|((first|apply kH|apply kI)<;>(intro hcnd;simp +decide only[go_sem,hcnd,hlt,hw,hx,t0,t3,r1,r2,z1,z2,lngRow,Ent.row,List.length_append,List.length_map,List.length_cons,List.length_nil]))))
    exact kM rfl (by simp +decide only[go_sem,lngRow,Ent.row,List.map_append,List.map_cons,List.map_nil,List.append_assoc,List.cons_append,List.nil_append,eqL,eqR]) (by simp +decide only[go_sem,lngRow,Ent.row])
  ·rw[if_neg h2]
   have t3:(0≤d.sect e)=False:=eq_false h2
   have z1:(#[(61:UInt8),32].size+ #[(35:UInt8)].size≤maxLen)=True:=mx (by simp only[List.size_toArray,List.length_cons,List.length_nil];omega)
   have z2:(#[(61:UInt8),32].size+ #[(35:UInt8)].size+ #[(32:UInt8),61].size≤maxLen)=True:=mx (by simp only[List.size_toArray,List.length_cons,List.length_nil];omega)
   cases ts
   ·have t1':=t1 rfl
    (repeat'(first|apply kA|apply kB|((first|refine kc (N:=65) ?_|refine kj (N:=65) kt53 ?_|apply kD|apply kE|refine kx hS ?_|refine kx hC ?_|refine kx hA ?_);simp +decide only[go_sem,hlt,hw,hx,t0,t1',t3,r1,r2,z1,z2,lngRow,Ent.row,List.length_append,List.length_map,List.length_cons,List.length_nil])|(apply kG;(simp +decide only[go_sem,hlt,hw,hx,t0,t1',t3,r1,r2,z1,z2,lngRow,Ent.row,List.length_append,List.length_map,List.length_cons,List.length_nil];rfl);all_goals(intro hcnd;try exact kz hcnd))|((first|apply kH|apply kI)<;>(intro hcnd;simp +decide only[go_sem,hcnd,hlt,hw,hx,t0,t1',t3,r1,r2,z1,z2,lngRow,Ent.row,List.length_append,List.length_map,List.length_cons,List.length_nil]))))
    exact kM rfl (by simp +decide only[go_sem,lngRow,Ent.row,List.map_append,List.map_cons,List.map_nil,List.append_assoc,List.cons_append,List.nil_append,eqL,eqR,hash]) (by simp +decide only[go_sem,lngRow,Ent.row])
   ·(repeat'(first|apply kA|apply kB|((first|refine kc (N:=65) ?_|refine kj (N:=65) kt53 ?_|apply kD|apply kE|refine kx hS ?_|refine kx hC ?_|refine kx hA ?_);simp +decide only[go_sem,hlt,hw,hx,t0,t3,r1,r2,z1,z2,lngRow,Ent.row,List.length_append,List.length_map,List.length_cons,List.length_nil])|(apply kG;(simp +decide only[go_sem,hlt,hw,hx,t0,t3,r1,r2,z1,z2,lngRow,Ent.row,List.length_append,List.length_map,List.length_cons,List.length_nil];rfl);all_goals(intro hcnd;try exact kz hcnd))|((first|apply kH|apply kI)<;>(intro hcnd;simp +decide only[go_sem,hcnd,hlt,hw,hx,t0,t3,r1,r2,z1,z2,lngRow,Ent.row,List.length_append,List.length_map,List.length_cons,List.length_nil]))))
    exact kM rfl (by simp +decide only[go_sem,lngRow,Ent.row,List.map_append,List.map_cons,List.map_nil,List.append_assoc,List.cons_append,List.nil_append,eqL,eqR,hash]) (by simp +decide only[go_sem,lngRow,Ent.row])
 ·intro hlt
  rw[lineP_all]
  (repeat'(first|apply kA|apply kB|((first|refine kc (N:=65) ?_|refine kj (N:=65) kt53 ?_|apply kD|apply kE);simp +decide only[go_sem,hlt,lngRow])|(apply kG;(simp +decide only[go_sem,hlt,lngRow];rfl);all_goals(intro hcnd;try exact kz hcnd))|((first|apply kH|apply kI)<;>(intro hcnd;simp +decide only[go_sem,hcnd,hlt,lngRow]))))
  refine dw_slot 2 _ (DLe.own_ _ _ _) ?_
  apply kF;simp +decide only[go_sem]
theorem lawLines(g:Lng)(hm:MidL g):DCalls Tryz.prog 6 [.agg (lngRow g.x g.d)] (dv (lb true)):=by
 have hmax:maxLen=9223372036854775807:=rfl
 have hL:=rLight_D g hm
 have hW:=awake_D
 simp only[lngRow]at hL
 refine kd (N:=15) (rs:= [.tmp 2]) Tryz.func6 ?_
 cases t1:lightB g
 ·rw[t1]at hL
  (repeat'(first|apply kA|apply kB|((first|refine kc (N:=15) ?_|refine kj (N:=15) kt54 ?_|apply kD|apply kE|refine kx hL ?_|refine kx hW ?_|apply kF);simp +decide only[go_sem,lngRow])|(apply kG;(simp +decide only[go_sem,lngRow];rfl);all_goals(intro hcnd;try exact kz hcnd))|((first|apply kH|apply kI)<;>(intro hcnd;simp +decide only[go_sem,hcnd,lngRow]))))
 rw[t1]at hL
 have hok:=light_ok hm t1
 have hA:=lines_D g.x hok (order56_D g.x hok)
 have hB:=rLines_D g.x hok
 have hE:=equal_D g.d.lines g.d.lines (by have:=lineP_len hok g.d.ord.length (Nat.le_refl _);rw[lineP_all,ord_len]at this;have:=hok.few;omega)
 rw[decide_eq_true rfl]at hE
 simp only[lngRow]at hA hB
 (repeat'(first|apply kA|apply kB|((first|refine kc (N:=15) ?_|refine kj (N:=15) kt54 ?_|apply kD|apply kE|refine kx hL ?_|refine kx hW ?_|refine kx hA ?_|refine kx hB ?_|refine kx hE ?_|apply kF);simp +decide only[go_sem,lngRow])|(apply kG;(simp +decide only[go_sem,lngRow];rfl);all_goals(intro hcnd;try exact kz hcnd))|((first|apply kH|apply kI)<;>(intro hcnd;simp +decide only[go_sem,hcnd,lngRow]))))
end Go.Proofs.YtehdkccjaeckhaaGreatDoor
