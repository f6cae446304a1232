/- Dictionaries: the laws that compare with the reference. -/
import Derived.Lib.ItoaNum
import Derived.Lib.AtoiAll
import Derived.WalkKit
import Derived.BigCall
import Derived.Lib.LaidTab
import Derived.Test.YtehdkccjaeckhaaGreatDoorm5
set_option linter.all false
set_option linter.unusedVariables false
set_option linter.unusedSimpArgs false
set_option maxRecDepth 10000
set_option maxHeartbeats 8000000
namespace Go.Proofs.YtehdkccjaeckhaaGreatDoor
abbrev kpxe33:List (Nat×Go.Dl.Mode):= [(0,.light),(1,.light),(2,.light),(3,.light),(4,.light),(5,.step)]
abbrev kpxe34:List (Nat×Go.Dl.Mode):= [(0,.light),(1,.light),(2,.light),(3,.light),(4,.light),(5,.light),(6,.light),(7,.step),(8,.light),(9,.light),(10,.light),(11,.light),(12,.light),(13,.light),(14,.light),(15,.light),(16,.light),(17,.light),(18,.light),(19,.light),(20,.light),(21,.light),(22,.light),(23,.light),(24,.light),(25,.light),(26,.light),(27,.light),(28,.light)]
abbrev kpxe35:List (Nat×Go.Dl.Mode):= [(0,.light),(1,.light),(2,.light),(3,.light),(4,.light),(5,.light),(6,.light),(7,.light),(8,.light),(9,.light),(10,.step),(11,.light)]
abbrev kpxe36:List (Nat×Go.Dl.Mode):= [(4,.blind),(5,.blind),(6,.blind),(0,.light),(1,.light),(2,.light),(3,.step),(7,.step),(8,.light)]
abbrev kpxe37:List (Nat×Go.Dl.Mode):= [(0,.light),(1,.light),(2,.light),(3,.light),(4,.light),(5,.light),(6,.light),(7,.light),(8,.light),(9,.light),(10,.light),(11,.light),(12,.light),(13,.light),(14,.light),(15,.light),(16,.light),(17,.step),(18,.light)]
abbrev kpxe38:List (Nat×Go.Dl.Mode):= [(0,.light),(1,.light),(2,.light),(3,.step),(4,.step),(5,.light),(6,.step),(7,.light),(8,.light)]
abbrev kt31:Nat→List (Nat×Go.Dl.Mode):=fun n=>match n with|8=>kpm5|_=> [(9999,.light)]
abbrev kt33:Nat→List (Nat×Go.Dl.Mode):=fun n=>match n with|6=>kpm30|_=> [(9999,.light)]
abbrev kt55:Nat→List (Nat×Go.Dl.Mode):=fun n=>match n with|5=>kpxe33|6=>kpm2|_=> [(9999,.light)]
abbrev kt56:Nat→List (Nat×Go.Dl.Mode):=fun n=>match n with|12=>kpxe34|_=> [(9999,.light)]
abbrev kt57:Nat→List (Nat×Go.Dl.Mode):=fun n=>match n with|3=>kpxe35|7=>kpm30|_=> [(9999,.light)]
abbrev kt58:Nat→List (Nat×Go.Dl.Mode):=fun n=>match n with|11=>kpxe36|_=> [(9999,.light)]
abbrev kt59:Nat→List (Nat×Go.Dl.Mode):=fun n=>match n with|8=>kpxe37|_=> [(9999,.light)]
abbrev kt60:Nat→List (Nat×Go.Dl.Mode):=fun n=>match n with|16=>kpm16|_=> [(9999,.light)]
abbrev kt61:Nat→List (Nat×Go.Dl.Mode):=fun n=>match n with|3=>kpxe38|_=> [(9999,.light)]
end Go.Proofs.YtehdkccjaeckhaaGreatDoor
open Go.Dl renaming dw_seq → kA, dw_block → kB, dw_reg → kC, dw_skip → kD, dw_exit → kE, dw_ret → kF, dw_cond → kG, guardC_f → kH, guardC_t → kI, dw_drw → kJ, dw_weaken → kK, sub_kn → kL, sub_ml → kM
open Go.Dl.CallC renaming mk → kN, light → kO
open Go.Dl.LeL renaming of_eq → kP
namespace Go.Dl
open Go.RowKit
noncomputable section
theorem DCalls.own0{P:Program}{f:FuncId}{ds:List D}{n sz:Nat}{xs:List (List C)}(h:DCalls P f ds (.one (.own n sz xs))):DCalls P f ds (.one (.own 0 sz xs)):=by
 have:=h.lab n
 simpa[D.tr,T.tr,labR,T.ownTo]using this
end
end Go.Dl
namespace Go.Proofs.YtehdkccjaeckhaaGreatDoor
open Go.Dl
open S (usort)
attribute [local irreducible] DW DCalls ECalls wk IW
theorem put_ok(l:List Ent)(p:Ent→Bool)(n:Int)(hl:l.length≤999999):DCalls Tryz.prog 61 [dv (.sl 1 (ints (usort (idsOf l p)))),dv (li n)] (dv (.sl 1 (ints (usort (idsOf l p++ [n]))))):=by
 have h:=r1Put_D (usort (idsOf l p)) n (usort_spec _).1 (by have:=usort_lenI (idsOf l p);have:=idsOf_len l p;omega)
 rwa [putI_usort]at h
theorem idx_up{l:List Int}(k:Nat){x:Int}(h:l[k]? =some x)(hi: ∀y∈l.take k,(x==y)=false):idxF (fun y=>x==y) l=(k:Int):=idxF_at h hi (by simp)
theorem rHom_D(l:List Ent)(id:Int)(hl:l.length≤999999)(hm: ∀e∈l,e.form.length≤maxLen):DCalls Tryz.prog 44 [dv (.sl 8 (l.map Ent.enc)),dv (li id)] (dv (li (homE l id))):=by
 have hmax:maxLen=9223372036854775807:=rfl
 have hG:=rGet_D l id (by omega)
 have hhas:=getE_has l id
 have hmem:(getE l id).2=true→(getE l id).1∈l∧(getE l id).1.id=id:=fun h=>by
  unfold getE at h ⊢
  cases hf:l.find? (fun e=>e.id==id)with
  | none=>rw[hf]at h;cases h
  | some e=>exact⟨List.mem_of_find?_eq_some hf,by simpa using List.find?_some hf⟩
 unfold homE
 generalize getE l id=p at hG hmem hhas
 obtain⟨o,b⟩:=p
 simp only[Ent.row]at hG
 refine kd (N:=58) (rs:= [.tmp 4]) Tryz.func44 ?_
 cases b
 ·(repeat'(first|apply kA|apply kB|((first|refine kc (N:=58) ?_|refine kj (N:=58) kt31 ?_|apply kD|apply kE|refine kx hG ?_|apply kF);simp +decide only[go_sem])|(apply kG;(simp +decide only[go_sem];rfl);all_goals(intro hcnd;try exact kz hcnd))|((first|apply kH|apply kI)<;>(intro hcnd;simp +decide only[go_sem,hcnd]))))
 ·obtain⟨ho,hoid⟩:=hmem rfl
  simp only at ho hoid
  (repeat'(first|apply kA|apply kB|((first|refine kc (N:=58) ?_|refine kj (N:=58) kt31 ?_|apply kD|apply kE|refine kx hG ?_);simp +decide only[go_sem])|(apply kG;(simp +decide only[go_sem];rfl);all_goals(intro hcnd;try exact kz hcnd))|((first|apply kH|apply kI)<;>(intro hcnd;simp +decide only[go_sem,hcnd]))))
  refine dw_slot 7 (dv (.sl 1 [])) (by simp +decide only[go_sem]) ?_
  refine dw_after (fun _:Unit=>kn 58 [(1,dv (li id)),(7,dv (.sl 1 (ints (usort (idsOf l fun e=>decide (e.form=o.form))))))] noMem) (fun _=>True) ?_ ?_
  ·refine dw_rng0 l (fun k=>kn 58 [(0,dv (.sl 8 (l.map Ent.enc))),(1,dv (li id)),(5,.one (.bx 5 8 0 0)),(7,dv (.sl 1 (ints (usort (idsOf (l.take k) fun e=>decide (e.form=o.form)))))),(19,dv (li l.length)),(20,dv (li k))] (ml [(5,[o.row])])) (by omega) (kM rfl (by simp +decide only[go_sem,List.take_zero,idsOf_nil,usort_nil,List.map_nil]) (by simp +decide only[go_sem,Ent.row])) ?_ ?_
   ·intro k e he hk hmm htk hlt hw
    have hS:=sameI_D e.form o.form (hm e hmm)
    have hP:=put_ok (l.take k) (fun e=>decide (e.form=o.form)) e.id (by rw[List.length_take];omega)
    have hst:usort (idsOf (l.take (k+1)) fun e=>decide (e.form=o.form))=if decide (e.form=o.form)=true then usort (idsOf (l.take k) (fun e=>decide (e.form=o.form))++ [e.id])else usort (idsOf (l.take k) fun e=>decide (e.form=o.form)):=by
     rw[htk,idsOf_snoc]
     by_cases h:decide (e.form=o.form)=true
     ·rw[if_pos h,if_pos h]
     ·rw[if_neg h,if_neg h,List.append_nil]
    cases t1:decide (e.form=o.form)
    ·rw[t1]at hS hst
     rw[if_neg (by decide)]at hst
     (repeat'(first|apply kA|apply kB|((first|refine kc (N:=58) ?_|refine kj (N:=58) kt31 ?_|apply kD|apply kE|refine kx hS ?_|apply kF);simp +decide only[go_sem,hlt,hw,he,Ent.enc,Ent.row])|(apply kG;(simp +decide only[go_sem,hlt,hw,he,Ent.enc,Ent.row];rfl);all_goals(intro hcnd;try exact kz hcnd))|((first|apply kH|apply kI)<;>(intro hcnd;simp +decide only[go_sem,hcnd,hlt,hw,he,Ent.enc,Ent.row]))))
     exact kM rfl (by simp +decide only[go_sem,hst]) (by simp +decide only[go_sem,Ent.row])
    ·rw[t1]at hS hst
     rw[if_pos rfl]at hst
     (repeat'(first|apply kA|apply kB|((first|refine kc (N:=58) ?_|refine kj (N:=58) kt31 ?_|apply kD|apply kE|refine kx hS ?_|refine kx hP ?_|apply kF);simp +decide only[go_sem,hlt,hw,he,Ent.enc,Ent.row])|(apply kG;(simp +decide only[go_sem,hlt,hw,he,Ent.enc,Ent.row];rfl);all_goals(intro hcnd;try exact kz hcnd))|((first|apply kH|apply kI)<;>(intro hcnd;simp +decide only[go_sem,hcnd,hlt,hw,he,Ent.enc,Ent.row]))))
     exact kM rfl (by simp +decide only[go_sem,hst]) (by simp +decide only[go_sem,Ent.row])
   ·intro hlt
    rw[List.take_length]
    (repeat'(first|apply kA|apply kB|((first|refine kc (N:=58) ?_|refine kj (N:=58) kt31 ?_|apply kD|apply kE);simp +decide only[go_sem,hlt])|(apply kG;(simp +decide only[go_sem,hlt];rfl);all_goals(intro hcnd;try exact kz hcnd))|((first|apply kH|apply kI)<;>(intro hcnd;simp +decide only[go_sem,hcnd,hlt]))))
    exact⟨(),kL rfl (by simp +decide only[go_sem]) (by simp[noMem])⟩
  rintro _ _
  have hid:id∈usort (idsOf l fun e=>decide (e.form=o.form)):=((usort_spec _).2 id).2 (mem_ids.2 ⟨o,ho,by simp,hoid⟩)
  have hup:=(usort_spec (idsOf l fun e=>decide (e.form=o.form))).1
  have hlen:(usort (idsOf l fun e=>decide (e.form=o.form))).length≤999999:=by
   have:=usort_lenI (idsOf l fun e=>decide (e.form=o.form));have:=idsOf_len l (fun e=>decide (e.form=o.form));omega
  generalize usort (idsOf l fun e=>decide (e.form=o.form))=xs at hid hup hlen
  (repeat'(first|apply kA|apply kB|((first|refine kc (N:=58) ?_|refine kj (N:=58) kt31 ?_|apply kD|apply kE);simp +decide only[go_sem])|(apply kG;(simp +decide only[go_sem];rfl);all_goals(intro hcnd;try exact kz hcnd))|((first|apply kH|apply kI)<;>(intro hcnd;simp +decide only[go_sem,hcnd]))))
  refine dw_rngI xs (fun k=>kn 58 [(1,dv (li id)),(7,dv (.sl 1 (ints xs))),(40,dv (li xs.length)),(41,dv (li k))] noMem) (fun k=>xs.length<2∨∀y∈xs.take k,(id==y)=false) (by omega) (kL rfl (by simp +decide only[go_sem]) (by simp[noMem])) (.inr (by simp)) ?_ ?_
  ·intro k x hx hk hmm htk hlt hw hi
   cases t1:x==id
   ·(repeat'(first|apply kA|apply kB|((first|refine kc (N:=58) ?_|refine kj (N:=58) kt31 ?_|apply kD|apply kE|apply kF);simp +decide only[go_sem,hlt,hw,hx,t1])|(apply kG;(simp +decide only[go_sem,hlt,hw,hx,t1];rfl);all_goals(intro hcnd;try exact kz hcnd))|((first|apply kH|apply kI)<;>(intro hcnd;simp +decide only[go_sem,hcnd,hlt,hw,hx,t1]))))
    refine⟨hi.imp (fun h=>h) fun h=>forall_snoc htk h (by simp at t1 ⊢;omega),kL rfl (by simp +decide only[go_sem]) (by simp[noMem])⟩
   ·have hxi:x=id:=by simpa using t1
    cases t2:decide ((1:Int)<(xs.length:Int))
    ·have n2:xs.length<2:=by simp at t2;omega
     (repeat'(first|apply kA|apply kB|((first|refine kc (N:=58) ?_|refine kj (N:=58) kt31 ?_|apply kD|apply kE|apply kF);simp +decide only[go_sem,hlt,hw,hx,t1,t2])|(apply kG;(simp +decide only[go_sem,hlt,hw,hx,t1,t2];rfl);all_goals(intro hcnd;try exact kz hcnd))|((first|apply kH|apply kI)<;>(intro hcnd;simp +decide only[go_sem,hcnd,hlt,hw,hx,t1,t2]))))
     exact⟨.inl n2,kL rfl (by simp +decide only[go_sem]) (by simp[noMem])⟩
    ·have n2: ¬xs.length<2:=by simp at t2;omega
     have hidx:idxF (fun y=>id==y) xs=(k:Int):=by
      rw[← hxi]
      exact idx_up k hx fun y hy=>by rw[hxi];exact(hi.resolve_left n2) y hy
     (repeat'(first|apply kA|apply kB|((first|refine kc (N:=58) ?_|refine kj (N:=58) kt31 ?_|apply kD|apply kE|apply kF);simp +decide only[go_sem,hlt,hw,hx,t1,t2])|(apply kG;(simp +decide only[go_sem,hlt,hw,hx,t1,t2];rfl);all_goals(intro hcnd;try exact kz hcnd))|((first|apply kH|apply kI)<;>(intro hcnd;simp +decide only[go_sem,hcnd,hlt,hw,hx,t1,t2]))))
     rw[if_neg n2,hidx];simp
  ·intro hlt hi
   rw[List.take_length]at hi
   have n2:xs.length<2:=hi.resolve_right fun h=>by have:=h id hid;simp at this
   (repeat'(first|apply kA|apply kB|((first|refine kc (N:=58) ?_|refine kj (N:=58) kt31 ?_|apply kD|apply kE|apply kF);simp +decide only[go_sem,hlt])|(apply kG;(simp +decide only[go_sem,hlt];rfl);all_goals(intro hcnd;try exact kz hcnd))|((first|apply kH|apply kI)<;>(intro hcnd;simp +decide only[go_sem,hcnd,hlt]))))
   rw[if_pos n2]
end Go.Proofs.YtehdkccjaeckhaaGreatDoor
namespace Go.Proofs.YtehdkccjaeckhaaGreatDoor
open Go.Lib
theorem dd_cons{u:Nat}:u≠0→decDigits u=(if u / 10=0 then []else decDigits (u / 10))++ [UInt8.ofNat (48+u % 10)]:=by
 intro h0
 by_cases h:u<10
 ·rw[dd_small h,if_pos (by omega),Nat.mod_eq_of_lt h];rfl
 ·rw[dd_big h,if_neg (by omega)]
theorem itoa_neg{n:Int}(h:n<0):itoa n=45::decDigits n.natAbs:=by rw[itoa,if_pos h]
end Go.Proofs.YtehdkccjaeckhaaGreatDoor
namespace Go.Proofs.YtehdkccjaeckhaaGreatDoor
open Go.Dl
attribute [local irreducible] DW DCalls ECalls wk IW
theorem rTextP_D(g:List Phon)(w:List Int)(hg: ∀p∈g,p.name.size≤1048576)(hgl:g.length≤1048576)(hw:w.length≤1048576):DCalls Tryz.prog 40 [.agg (invRow g),dv (.sl 1 (ints w))] (dv (ls (textP g w))):=by
 have hmax:maxLen=9223372036854775807:=rfl
 refine kd (N:=32) (rs:= [.tmp 4]) Tryz.func40 ?_
 (repeat(first|apply kA|apply kB|((first|refine kc (N:=32) ?_|refine kj (N:=32) kt55 ?_|apply kD|apply kE);simp +decide only[go_sem])))
 refine dw_rng0 w (fun k=>kn 32 [(1,dv (.sl 1 (ints w))),(2,.one (.bx 2 1 0 0)),(5,dv (ls (textP g (w.take k)))),(8,dv (li w.length)),(9,dv (li k))] (ml [(2,[invRow g])])) (by omega) (kM rfl (by simp +decide only[go_sem,List.take_zero,textP,List.foldl_nil,invRow,List.length_cons,List.length_nil,empty_mk]) (by simp +decide only[go_sem,invRow])) ?_ ?_
 ·intro k n he hk hmm htk hlt hwr
  have fa:=ints_at2 he
  have hs:=rIs_D g n
  have hst:textP g (w.take (k+1))=if segOk g n=true then textP g (w.take k)++nameAt g n else textP g (w.take k):=by rw[htk];exact textP_snoc g _ n
  have hle:=textP_le hg w k
  cases t1:segOk g n
  ·rw[t1]at hs hst
   rw[if_neg (by decide)]at hst
   (repeat'(first|apply kA|apply kB|((first|refine kc (N:=32) ?_|refine kj (N:=32) kt55 ?_|apply kD|apply kE|refine kx hs ?_|apply kF);simp +decide only[go_sem,hlt,hwr,fa,invRow])|(apply kG;(simp +decide only[go_sem,hlt,hwr,fa,invRow];rfl);all_goals(intro hcnd;try exact kz hcnd))))
   exact kM rfl (by simp +decide only[go_sem,hst]) (by simp +decide only[go_sem,invRow])
  ·rw[t1]at hs hst
   rw[if_pos rfl]at hst
   obtain⟨j,p,rfl,e1,e2⟩:=seg_name t1
   have hn:=nameAt_size hg ((j:Int)+1)
   have hj:=(List.getElem?_eq_some_iff.1 e1).1
   rw[e2]at hst hn
   have u1:IntKind.i64.wrap ((j:Int)+1 - 1)=(j:Int):=by rw[wrap_i64 (by omega) (by omega)];omega
   have u2:((textP g (w.take k)).size+p.name.size≤maxLen)=True:=by
    simp only[eq_iff_iff,iff_true]
    have:k*1048576≤1048576*1048576:=Nat.mul_le_mul_right _ (by omega)
    omega
   (repeat'(first|apply kA|apply kB|((first|refine kc (N:=32) ?_|refine kj (N:=32) kt55 ?_|apply kD|apply kE|refine kx hs ?_|apply kF);simp +decide only[go_sem,hlt,hwr,fa,invRow,u1,e1,u2,Phon.enc])|(apply kG;(simp +decide only[go_sem,hlt,hwr,fa,invRow,u1,e1,u2,Phon.enc];rfl);all_goals(intro hcnd;try exact kz hcnd))))
   exact kM rfl (by simp +decide only[go_sem,hst]) (by simp +decide only[go_sem,invRow])
 ·intro hlt
  rw[List.take_length]
  (repeat'(first|apply kA|apply kB|((first|refine kc (N:=32) ?_|refine kj (N:=32) kt55 ?_|apply kD|apply kE|apply kF);simp +decide only[go_sem,hlt])|(apply kG;(simp +decide only[go_sem,hlt];rfl);all_goals(intro hcnd;try exact kz hcnd))))
theorem starts_iff(w:List Int)(u:Unt):startsU w u=decide (u.segs <+: w):=rfl
theorem rStarts_D(w:List Int)(p:Nat)(u:Unt)(hp:p≤w.length)(hw:w.length≤1048576)(hu:u.segs.length≤1048576):DCalls Tryz.prog 74 [dv (.sl 1 (ints w)),dv (li p),.agg u.row] (dv (lb (startsU (w.drop p) u))):=by
 have hmax:maxLen=9223372036854775807:=rfl
 have u0:IntKind.i64.wrap ((w.length:Int) - (p:Int))=((w.length - p:Nat):Int):=by rw[wrap_i64 (by omega) (by omega)];omega
 rw[starts_iff]
 by_cases h0:w.length - p<u.segs.length
 ·have t1:decide (((w.length - p:Nat):Int)<(u.segs.length:Int))=true:=by simp;omega
  have e:decide (u.segs <+: w.drop p)=false:=by
   rw[decide_eq_false_iff_not]
   intro h
   have:=h.length_le
   rw[List.length_drop]at this
   omega
  rw[e]
  refine kd (N:=35) (rs:= [.tmp 6]) Tryz.func74 ?_
  (repeat'(first|apply kA|apply kB|((first|refine kc (N:=35) ?_|refine kj (N:=35) kt33 ?_|apply kD|apply kE|apply kF);simp +decide only[go_sem,Unt.row,u0,t1])|(apply kG;(simp +decide only[go_sem,Unt.row,u0,t1];rfl);all_goals(intro hcnd;try exact kz hcnd))))
 ·have t1:decide (((w.length - p:Nat):Int)<(u.segs.length:Int))=false:=by simp;omega
  refine kd (N:=35) (rs:= [.tmp 6]) Tryz.func74 ?_
  (repeat'(first|apply kA|apply kB|((first|refine kc (N:=35) ?_|refine kj (N:=35) kt33 ?_|apply kD|apply kE);simp +decide only[go_sem,Unt.row,u0,t1])|(apply kG;(simp +decide only[go_sem,Unt.row,u0,t1];rfl);all_goals(intro hcnd;try exact kz hcnd))))
  refine dw_rngI u.segs (fun k=>kn 35 [(0,dv (.sl 1 (ints w))),(1,dv (li p)),(5,.one (.bx 5 2 0 0)),(7,dv (li k))] (ml [(5,[u.row])])) (fun k=>u.segs.take k=(w.drop p).take k) (by omega) (kM rfl (by simp +decide only[go_sem,Unt.row,List.length_cons,List.length_nil]) (by simp +decide only[go_sem,Unt.row])) (by simp) ?_ ?_
  ·intro k x he hk hmm htk hlt hwr hi
   have hpk:p+k<w.length:=by omega
   have ew:w[p+k]? =some w[p+k]:=List.getElem?_eq_getElem hpk
   generalize w[p+k]=y at ew
   have fa:=ints_at2 he
   have fb:=ints_at2 ew
   have u1:IntKind.i64.wrap ((p:Int)+(k:Int))=((p+k:Nat):Int):=by rw[wrap_i64 (by omega) (by omega)];omega
   have ed:(w.drop p)[k]? =some y:=by rw[List.getElem?_drop];exact ew
   have htd:(w.drop p).take (k+1)=(w.drop p).take k++ [y]:=by rw[List.take_add_one,ed];rfl
   rcases Bool.eq_false_or_eq_true (y !=x)with t2|t2
   ·have e:decide (u.segs <+: w.drop p)=false:=by
     rw[decide_eq_false_iff_not]
     rintro⟨r,hr⟩
     rw[← hr,List.getElem?_append_left hk,he]at ed
     injection ed with ed
     rw[ed]at t2
     simp at t2
    rw[e]
    (repeat'(first|apply kA|apply kB|((first|refine kc (N:=35) ?_|refine kj (N:=35) kt33 ?_|apply kD|apply kE|apply kF);simp +decide only[go_sem,hlt,hwr,fa,fb,u1,t2,Unt.row])|(apply kG;(simp +decide only[go_sem,hlt,hwr,fa,fb,u1,t2,Unt.row];rfl);all_goals(intro hcnd;try exact kz hcnd))))
   ·have hxy:y=x:=by simpa using t2
    (repeat'(first|apply kA|apply kB|((first|refine kc (N:=35) ?_|refine kj (N:=35) kt33 ?_|apply kD|apply kE|apply kF);simp +decide only[go_sem,hlt,hwr,fa,fb,u1,t2,Unt.row])|(apply kG;(simp +decide only[go_sem,hlt,hwr,fa,fb,u1,t2,Unt.row];rfl);all_goals(intro hcnd;try exact kz hcnd))))
    exact⟨by rw[htk,htd,hi,hxy],kM rfl (by simp +decide only[go_sem,hwr]) (by simp +decide only[go_sem,Unt.row])⟩
  ·intro hlt hi
   rw[List.take_length]at hi
   have e:decide (u.segs <+: w.drop p)=true:=by
    rw[decide_eq_true_iff,hi]
    exact List.take_prefix _ _
   rw[e]
   (repeat'(first|apply kA|apply kB|((first|refine kc (N:=35) ?_|refine kj (N:=35) kt33 ?_|apply kD|apply kE|apply kF);simp +decide only[go_sem,hlt,Unt.row])|(apply kG;(simp +decide only[go_sem,hlt,Unt.row];rfl);all_goals(intro hcnd;try exact kz hcnd))))
theorem rSpell_D(nm:ByteArray)(us:List Unt)(lt:List (List ByteArray))(w:List Int)(ho:OkU us)(hl:us.length≤1000000)(hg: ∀u∈us,u.graph.size≤1048576)(hsg: ∀u∈us,u.segs.length≤1048576):
  DCalls Tryz.prog 39 [.agg (ortRow nm us lt),dv (.sl 1 (ints w))] (.tup [dv (ls (spellE us w).1),dv (li (spellE us w).2.1),dv (li (spellE us w).2.2)]):=by
 have hmax:maxLen=9223372036854775807:=rfl
 unfold spellE
 by_cases w0:w.length=0
 ·have t1:((w.length:Int)==0)=true:=by rw[beq_iff_eq];omega
  rw[if_pos w0]
  refine kd (N:=79) (rs:= [.tmp 4,.tmp 5,.tmp 6]) Tryz.func39 ?_
  (repeat'(first|apply kA|apply kB|((first|refine kc (N:=79) ?_|refine kj (N:=79) kt56 ?_|apply kD|apply kE|apply kF);simp +decide only[go_sem,t1])|(apply kG;(simp +decide only[go_sem,t1];rfl);all_goals(intro hcnd;try exact kz hcnd))|((first|apply kH|apply kI)<;>(intro hcnd;simp +decide only[go_sem,hcnd,t1]))))
  rfl
 rw[if_neg w0]
 have t1:((w.length:Int)==0)=false:=by rw[beq_eq_false_iff_ne];omega
 by_cases w1:24<w.length
 ·have t2:decide ((24:Int)<(w.length:Int))=true:=by simp;omega
  rw[if_pos w1]
  refine kd (N:=79) (rs:= [.tmp 4,.tmp 5,.tmp 6]) Tryz.func39 ?_
  (repeat'(first|apply kA|apply kB|((first|refine kc (N:=79) ?_|refine kj (N:=79) kt56 ?_|apply kD|apply kE|apply kF);simp +decide only[go_sem,t1,t2])|(apply kG;(simp +decide only[go_sem,t1,t2];rfl);all_goals(intro hcnd;try exact kz hcnd))|((first|apply kH|apply kI)<;>(intro hcnd;simp +decide only[go_sem,hcnd,t1,t2]))))
  rfl
 rw[if_neg w1]
 have t2:decide ((24:Int)<(w.length:Int))=false:=by simp;omega
 refine kd (N:=79) (rs:= [.tmp 4,.tmp 5,.tmp 6]) Tryz.func39 ?_
 (repeat'(first|apply kA|apply kB|((first|refine kc (N:=79) ?_|refine kj (N:=79) kt56 ?_|apply kD|apply kE);simp +decide only[go_sem,t1,t2])|(apply kG;(simp +decide only[go_sem,t1,t2];rfl);all_goals(intro hcnd;try exact kz hcnd))|((first|apply kH|apply kI)<;>(intro hcnd;simp +decide only[go_sem,hcnd,t1,t2]))))
 refine dw_loop_fam (fun y:Nat×ByteArray=>kn 79 [(1,dv (.sl 1 (ints w))),(2,.one (.bx 2 3 0 0)),(7,dv (ls y.2)),(8,dv (li y.1))] (ml [(2,[ortRow nm us lt])]))
  (fun y=>y.1≤w.length∧y.2.size≤y.1*1048576∧spellF us w w.length 0 ByteArray.empty=spellF us w (w.length - y.1) y.1 y.2) (fun y=>w.length - y.1) (0,ByteArray.empty) (kM rfl (by simp +decide only[go_sem,ortRow,List.length_cons,List.length_nil,empty_mk]) (by simp +decide only[go_sem,ortRow])) ⟨by simp,by simp,rfl⟩ ?_
 rintro⟨p,s⟩ ⟨h1,h2,h3⟩
 simp only at h1 h2 h3 ⊢
 rw[h3]
 by_cases ha:p<w.length
 ·have t3:decide ((p:Int)<(w.length:Int))=true:=by simp;omega
  obtain⟨m,hm⟩: ∃m,w.length - p=m+1:=⟨w.length - p - 1,by omega⟩
  (repeat'(first|apply kA|apply kB|((first|refine kc (N:=79) ?_|refine kj (N:=79) kt56 ?_|apply kD|apply kE);simp +decide only[go_sem,t3,ortRow])|(apply kG;(simp +decide only[go_sem,t3,ortRow];rfl);all_goals(intro hcnd;try exact kz hcnd))|((first|apply kH|apply kI)<;>(intro hcnd;simp +decide only[go_sem,hcnd,t3,ortRow]))))
  refine dw_rng0 us (fun i=>kn 79 [(1,dv (.sl 1 (ints w))),(2,.one (.bx 2 3 0 0)),(7,dv (ls s)),(8,dv (li p)),(9,dv (li (bestU us (w.drop p) i))),(10,dv (li i))] (ml [(2,[ortRow nm us lt])])) (by omega) (kM rfl (by simp +decide only[go_sem,bestU,ortRow]) (by simp +decide only[go_sem,ortRow])) ?_ ?_
  ·intro i u he hk hmm htk hlt hw
   have hS:=rStarts_D w p u h1 (by omega) (hsg u hmm)
   have hb:=bestU_succ (w:=w.drop p) he
   have hr:=bestU_rng us (w.drop p) i (by omega)
   generalize bestU us (w.drop p) i=b at hb hr ⊢
   cases t4:startsU (w.drop p) u
   ·rw[t4]at hS hb
    rw[if_neg (by simp)]at hb
    (repeat'(first|apply kA|apply kB|((first|refine kc (N:=79) ?_|refine kj (N:=79) kt56 ?_|apply kD|apply kE|refine kx hS ?_|apply kF);simp +decide only[go_sem,hlt,hw,he,ortRow,Unt.enc,Unt.row])|(apply kG;(simp +decide only[go_sem,hlt,hw,he,ortRow,Unt.enc,Unt.row];rfl);all_goals(intro hcnd;try exact kz hcnd))|((first|apply kH|apply kI)<;>(intro hcnd;simp +decide only[go_sem,hcnd,hlt,hw,he,ortRow,Unt.enc,Unt.row]))))
    exact kM rfl (by simp +decide only[go_sem,hb]) (by simp +decide only[go_sem,ortRow])
   ·rw[t4]at hS hb
    by_cases t5:b<0
    ·have t6:(b<0)=True:=by simpa using t5
     rw[if_pos (by simp[t5])]at hb
     (repeat'(first|apply kA|apply kB|((first|refine kc (N:=79) ?_|refine kj (N:=79) kt56 ?_|apply kD|apply kE|refine kx hS ?_|apply kF);simp +decide only[go_sem,hlt,hw,he,ortRow,Unt.enc,Unt.row,t6])|(apply kG;(simp +decide only[go_sem,hlt,hw,he,ortRow,Unt.enc,Unt.row,t6];rfl);all_goals(intro hcnd;try exact kz hcnd))|((first|apply kH|apply kI)<;>(intro hcnd;simp +decide only[go_sem,hcnd,hlt,hw,he,ortRow,Unt.enc,Unt.row,t6]))))
     exact kM rfl (by simp +decide only[go_sem,hb]) (by simp +decide only[go_sem,ortRow])
    ·have t6:(b<0)=False:=by simpa using t5
     obtain⟨j,rfl⟩: ∃j:Nat,b=j:=⟨b.toNat,by omega⟩
     have hj:j<us.length:=by omega
     have ej:us[j]? =some us[j]:=List.getElem?_eq_getElem hj
     generalize us[j]=v at ej
     have ev:unitAt us (j:Int)=v:=by unfold unitAt;simp[ej]
     rw[ev]at hb
     by_cases t7:v.segs.length<u.segs.length
     ·have t8:((v.segs.length:Int)<(u.segs.length:Int))=True:=by simp;omega
      rw[if_pos (by simp[t7])]at hb
      (repeat'(first|apply kA|apply kB|((first|refine kc (N:=79) ?_|refine kj (N:=79) kt56 ?_|apply kD|apply kE|refine kx hS ?_|apply kF);simp +decide only[go_sem,hlt,hw,he,ej,ortRow,Unt.enc,Unt.row,t6,t8])|(apply kG;(simp +decide only[go_sem,hlt,hw,he,ej,ortRow,Unt.enc,Unt.row,t6,t8];rfl);all_goals(intro hcnd;try exact kz hcnd))|((first|apply kH|apply kI)<;>(intro hcnd;simp +decide only[go_sem,hcnd,hlt,hw,he,ej,ortRow,Unt.enc,Unt.row,t6,t8]))))
      exact kM rfl (by simp +decide only[go_sem,hb]) (by simp +decide only[go_sem,ortRow])
     ·have t8:((v.segs.length:Int)<(u.segs.length:Int))=False:=by simp;omega
      rw[if_neg (by simp[t7])]at hb
      (repeat'(first|apply kA|apply kB|((first|refine kc (N:=79) ?_|refine kj (N:=79) kt56 ?_|apply kD|apply kE|refine kx hS ?_|apply kF);simp +decide only[go_sem,hlt,hw,he,ej,ortRow,Unt.enc,Unt.row,t6,t8])|(apply kG;(simp +decide only[go_sem,hlt,hw,he,ej,ortRow,Unt.enc,Unt.row,t6,t8];rfl);all_goals(intro hcnd;try exact kz hcnd))|((first|apply kH|apply kI)<;>(intro hcnd;simp +decide only[go_sem,hcnd,hlt,hw,he,ej,ortRow,Unt.enc,Unt.row,t6,t8]))))
      exact kM rfl (by simp +decide only[go_sem,hb]) (by simp +decide only[go_sem,ortRow])
  ·intro hlt
   rw[hm,spellF,if_neg (by omega)]
   by_cases hb:bestU us (w.drop p) us.length<0
   ·have t6:(bestU us (w.drop p) us.length<0)=True:=by simpa using hb
    rw[if_pos hb]
    (repeat'(first|apply kA|apply kB|((first|refine kc (N:=79) ?_|refine kj (N:=79) kt56 ?_|apply kD|apply kE|apply kF);simp +decide only[go_sem,hlt,t6,ortRow])|(apply kG;(simp +decide only[go_sem,hlt,t6,ortRow];rfl);all_goals(intro hcnd;try exact kz hcnd))|((first|apply kH|apply kI)<;>(intro hcnd;simp +decide only[go_sem,hcnd,hlt,t6,ortRow]))))
    rfl
   ·have t6:(bestU us (w.drop p) us.length<0)=False:=by simpa using hb
    rw[if_neg hb]
    obtain⟨u,e1,e2,e3,e4⟩:=unit_some hb
    rw[e2]
    have hz:u.segs.length≠0:=by simpa using ho.segs u e3
    have hle:u.segs.length≤w.length - p:=by have:=e4.length_le;rwa [List.length_drop]at this
    have hgs:=hg u e3
    obtain⟨j,hj⟩: ∃j:Nat,bestU us (w.drop p) us.length=j:=⟨(bestU us (w.drop p) us.length).toNat,by omega⟩
    rw[hj]at e1 t6
    have e1':us[j]? =some u:=by simpa using e1
    have u1:IntKind.i64.wrap ((p:Int)+(u.segs.length:Int))=((p+u.segs.length:Nat):Int):=by rw[wrap_i64 (by omega) (by omega)];omega
    have u2:(s.size+u.graph.size≤maxLen)=True:=by
     simp only[eq_iff_iff,iff_true]
     have:p*1048576≤24*1048576:=Nat.mul_le_mul_right _ (by omega)
     omega
    (repeat'(first|apply kA|apply kB|((first|refine kc (N:=79) ?_|refine kj (N:=79) kt56 ?_|apply kD|apply kE);simp +decide only[go_sem,hlt,hj,t6,e1',ortRow,Unt.enc,u1,u2])|(apply kG;(simp +decide only[go_sem,hlt,hj,t6,e1',ortRow,Unt.enc,u1,u2];rfl);all_goals(intro hcnd;try exact kz hcnd))|((first|apply kH|apply kI)<;>(intro hcnd;simp +decide only[go_sem,hcnd,hlt,hj,t6,e1',ortRow,Unt.enc,u1,u2]))))
    refine⟨(p+u.segs.length,s++u.graph),⟨by simp only;omega,?_,?_⟩,by simp only;omega,kM rfl (by simp +decide only[go_sem,u1]) (by simp +decide only[go_sem,ortRow])⟩
    ·simp only[ByteArray.size_append]
     have:(p+1)*1048576≤(p+u.segs.length)*1048576:=Nat.mul_le_mul_right _ (by omega)
     rw[Nat.succ_mul]at this
     omega
    ·exact spellF_fuel ho w _ _ _ _ (by omega) (by omega)
 ·have t3:decide ((p:Int)<(w.length:Int))=false:=by simp;omega
  have:w.length - p=0:=by omega
  rw[this,spellF]
  (repeat'(first|apply kA|apply kB|((first|refine kc (N:=79) ?_|refine kj (N:=79) kt56 ?_|apply kD|apply kE|apply kF);simp +decide only[go_sem,t3])|(apply kG;(simp +decide only[go_sem,t3];rfl);all_goals(intro hcnd;try exact kz hcnd))|((first|apply kH|apply kI)<;>(intro hcnd;simp +decide only[go_sem,hcnd,t3]))))
end Go.Proofs.YtehdkccjaeckhaaGreatDoor
namespace Go.Proofs.YtehdkccjaeckhaaGreatDoor
open Go.Dl Go.RowKit Go.Lib
attribute [local irreducible] DW DCalls ECalls wk IW
theorem app_bytes(a b:List UInt8):(⟨a.toArray⟩:ByteArray)++⟨b.toArray⟩=⟨(a++b).toArray⟩:=by
 apply ByteArray.ext
 simp
theorem one_byte(c:UInt8)(a:List UInt8):(⟨#[c]⟩:ByteArray)++⟨a.toArray⟩=⟨(c::a).toArray⟩:=app_bytes [c] a
theorem natAbs_tdiv(k:Int):(k.tdiv 10).natAbs=k.natAbs / 10:=by rw[Int.natAbs_tdiv];rfl
theorem rTextN_D(n:Int)(h0: -9223372036854775808≤n)(h1:n≤9223372036854775807):DCalls Tryz.prog 45 [dv (li n)] (dv (ls (numB n))):=by
 have hmax:maxLen=9223372036854775807:=rfl
 refine kd (N:=31) (rs:= [.tmp 2]) Tryz.func45 ?_
 cases t0:n==0
 rotate_left
 ·have:n=0:=by simpa using t0
  subst this
  (repeat'(first|apply kA|apply kB|((first|refine kc (N:=31) ?_|apply kD|apply kE|apply kF);simp +decide only[go_sem])|(apply kG;(simp +decide only[go_sem];rfl);all_goals(intro hcnd;try exact kz hcnd))))
  rw[show numB 0=⟨#[48]⟩ by rw[numB,itoa_pos (by decide),dd_small (by decide)];rfl]
 have hn:n≠0:=by simpa using t0
 (repeat'(first|apply kA|apply kB|((first|refine kc (N:=31) ?_|apply kD|apply kE);simp +decide only[go_sem,t0])|(apply kG;(simp +decide only[go_sem,t0];rfl);all_goals(intro hcnd;try exact kz hcnd))))
 refine dw_loop_fam (fun p:Int×List UInt8=>kn 31 [(0,dv (li n)),(3,dv (ls ⟨p.2.toArray⟩)),(4,dv (li p.1))] noMem) (fun p=>(-9223372036854775808≤p.1∧p.1≤9223372036854775807)∧(if p.1=0 then p.2=decDigits n.natAbs else decDigits p.1.natAbs++p.2=decDigits n.natAbs)) (fun p=>p.1.natAbs) (n,[]) (kL rfl (by simp +decide only[go_sem]) (by simp[noMem])) ⟨⟨h0,h1⟩,by rw[if_neg hn,List.append_nil]⟩ ?_
 rintro⟨k,acc⟩ ⟨⟨hk0,hk1⟩,hacc⟩
 simp only at hk0 hk1 hacc
 have hal:acc.length≤4000000000000000000:=by
  have h2:=dd_len n.natAbs
  have h3:acc.length≤(decDigits n.natAbs).length:=by
   split at hacc
   ·rw[hacc];exact Nat.le_refl _
   ·rw[← hacc];simp
  omega
 have r1: ∀c:UInt8,(#[c].size+acc.toArray.size≤maxLen)=True:=fun c=>eq_true (by simp;omega)
 cases t1:k !=0
 ·have hk:k=0:=by simpa using t1
  rw[if_pos hk]at hacc
  cases t2:decide (n<0)
  ·(repeat'(first|apply kA|apply kB|((first|refine kc (N:=31) ?_|apply kD|apply kE|apply kF);simp +decide only[go_sem,t1,t2])|(apply kG;(simp +decide only[go_sem,t1,t2];rfl);all_goals(intro hcnd;try exact kz hcnd))))
   rw[numB,itoa_pos (by simpa using t2),hacc]
  ·(repeat'(first|apply kA|apply kB|((first|refine kc (N:=31) ?_|apply kD|apply kE|apply kF);simp +decide only[go_sem,t1,t2,r1,one_byte])|(apply kG;(simp +decide only[go_sem,t1,t2,r1,one_byte];rfl);all_goals(intro hcnd;try exact kz hcnd))))
   rw[numB,itoa_neg (by simpa using t2),← hacc]
 ·have hk:k≠0:=by simpa using t1
  rw[if_neg hk,dd_cons (by omega)]at hacc
  have hq:=natAbs_tdiv k
  have hw:IntKind.i64.wrap (k.tdiv 10)=k.tdiv 10:=wrap_i64 (by omega) (by omega)
  have hstep:(if k.tdiv 10=0 then UInt8.ofNat (48+k.natAbs % 10)::acc=decDigits n.natAbs else decDigits (k.tdiv 10).natAbs++(UInt8.ofNat (48+k.natAbs % 10)::acc)=decDigits n.natAbs):=by
   split
   ·rename_i h;rw[if_pos (by omega)]at hacc;simpa using hacc
   ·rename_i h;rw[if_neg (by omega)]at hacc;rw[hq];simpa using hacc
  have hd:(k.tmod 10).natAbs=k.natAbs % 10:=by rw[Int.natAbs_tmod];rfl
  have h8:IntKind.u8.wrap (48+((k.natAbs % 10:Nat):Int))=((48+k.natAbs % 10:Nat):Int):=by
   show(48+((k.natAbs % 10:Nat):Int)) % 256=_
   omega
  have hw48:IntKind.i64.wrap (48+((k.natAbs % 10:Nat):Int))=48+((k.natAbs % 10:Nat):Int):=wrap_i64 (by omega) (by omega)
  cases t2:decide (k.tmod 10<0)
  ·have e1:k.tmod 10=((k.natAbs % 10:Nat):Int):=by simp at t2;omega
   have hz:decide (((k.natAbs % 10:Nat):Int)<0)=false:=by simp;omega
   (repeat'(first|apply kA|apply kB|((first|refine kc (N:=31) ?_|apply kD|apply kE);simp +decide only[go_sem,t1,hz,e1,hw,hw48,h8,r1,one_byte,Int.toNat_natCast])|(apply kG;(simp +decide only[go_sem,t1,hz,e1,hw,hw48,h8,r1,one_byte,Int.toNat_natCast];rfl);all_goals(intro hcnd;try exact kz hcnd))))
   exact⟨(k.tdiv 10,UInt8.ofNat (48+k.natAbs % 10)::acc),⟨⟨by simp only;omega,by simp only;omega⟩,hstep⟩,by simp only;omega,kL rfl (by simp +decide only[go_sem]) (by simp[noMem])⟩
  ·have e1:IntKind.i64.wrap (0 - k.tmod 10)=((k.natAbs % 10:Nat):Int):=by simp at t2;rw[wrap_i64 (by omega) (by omega)];omega
   (repeat'(first|apply kA|apply kB|((first|refine kc (N:=31) ?_|apply kD|apply kE);simp +decide only[go_sem,t1,t2,e1,hw,hw48,h8,r1,one_byte,Int.toNat_natCast])|(apply kG;(simp +decide only[go_sem,t1,t2,e1,hw,hw48,h8,r1,one_byte,Int.toNat_natCast];rfl);all_goals(intro hcnd;try exact kz hcnd))))
   exact⟨(k.tdiv 10,UInt8.ofNat (48+k.natAbs % 10)::acc),⟨⟨by simp only;omega,by simp only;omega⟩,hstep⟩,by simp only;omega,kL rfl (by simp +decide only[go_sem]) (by simp[noMem])⟩
end Go.Proofs.YtehdkccjaeckhaaGreatDoor
namespace Go.Proofs.YtehdkccjaeckhaaGreatDoor
open Go.Dl
open S (usort)
attribute [local irreducible] DW DCalls ECalls wk IW
theorem rSpelled_D(x:LX){d:Dic}(hd:OkD d)(w:List Int)(hw:w.length≤1000):DCalls Tryz.prog 15 [.agg (lngRow x d),dv (.sl 1 (ints w))] (dv (ls (d.sp w))):=by
 have hmax:maxLen=9223372036854775807:=rfl
 have hS:=rSpell_D x.nm d.units d.letters w hd.units (by have:=hd.ulen;omega) (fun u hu=>by have:=hd.gsz u hu;omega) (fun u hu=>by have:=hd.usg u hu;omega)
 have hT:=rTextP_D d.inv w (fun p hp=>by have:=hd.nsz p hp;omega) hd.ilen (by omega)
 unfold Dic.sp spelledE
 simp only[ortRow]at hS
 simp only[invRow]at hT
 generalize spellE d.units w=r at hS ⊢
 obtain⟨a,b,c⟩:=r
 simp only at hS ⊢
 cases t1:c !=0
 ·have: ¬c≠0:=by simpa using t1
  rw[if_neg this]
  refine kd (N:=23) (rs:= [.tmp 4]) Tryz.func15 ?_
  (repeat'(first|apply kA|apply kB|((first|refine kc (N:=23) ?_|apply kD|apply kE|refine kx hS ?_|apply kF);simp +decide only[go_sem,lngRow,t1])|(apply kG;(simp +decide only[go_sem,lngRow,t1];rfl);all_goals(intro hcnd;try exact kz hcnd))))
 ·have:c≠0:=by simpa using t1
  rw[if_pos this]
  refine kd (N:=23) (rs:= [.tmp 4]) Tryz.func15 ?_
  (repeat'(first|apply kA|apply kB|((first|refine kc (N:=23) ?_|apply kD|apply kE|refine kx hS ?_|refine kx hT ?_|apply kF);simp +decide only[go_sem,lngRow,t1])|(apply kG;(simp +decide only[go_sem,lngRow,t1];rfl);all_goals(intro hcnd;try exact kz hcnd))))
theorem rHead56_D(x:LX){d:Dic}(hd:OkD d)(id:Int):DCalls Tryz.prog 17 [.agg (lngRow x d),dv (li id)] (dv (ls (d.head id))):=by
 have hmax:maxLen=9223372036854775807:=rfl
 have hf:=hd.few
 have hG:=rGet_D d.lex id (by omega)
 have hS:=rSpelled_D x hd (getE d.lex id).1.form (by have:=get_form hd (id:=id);omega)
 have hH:=rHom_D d.lex id (by omega) (ok_form hd)
 have h3:=hom_rng (l:=d.lex) id
 have hN:=rTextN_D (homE d.lex id) (by omega) (by omega)
 have hnl:=numB_le h3.1 (by omega)
 have hsl:=sp_le hd (getE d.lex id).1.form
 have h2:=get_form hd (id:=id)
 have hsl2:(getE d.lex id).1.form.length*32≤3*32:=Nat.mul_le_mul_right _ h2
 simp only[lngRow]at hS
 unfold Dic.head
 generalize homE d.lex id=n at hH hN hnl h3 ⊢
 generalize getE d.lex id=p at hG hS hsl hsl2 ⊢
 obtain⟨e,b⟩:=p
 simp only[Ent.row]at hG hS hsl hsl2 ⊢
 generalize d.sp e.form=s at hS hsl ⊢
 cases b
 ·rw[if_pos rfl]
  refine kd (N:=35) (rs:= [.tmp 4]) Tryz.func17 ?_
  (repeat'(first|apply kA|apply kB|((first|refine kc (N:=35) ?_|apply kD|apply kE|refine kx hG ?_|apply kF);simp +decide only[go_sem,lngRow])|(apply kG;(simp +decide only[go_sem,lngRow];rfl);all_goals(intro hcnd;try exact kz hcnd))))
  rfl
 rw[if_neg (by decide)]
 have z1:(s.size+ #[(32:UInt8)].size≤maxLen)=True:=eq_true (by rw[show #[(32:UInt8)].size=1 from rfl];omega)
 have z2:(s.size+ #[(32:UInt8)].size+(numB n).size≤maxLen)=True:=eq_true (by rw[show #[(32:UInt8)].size=1 from rfl];omega)
 cases t1:n==0
 ·rw[if_pos (by have:n≠0:=(by simpa using t1);omega)]
  refine kd (N:=35) (rs:= [.tmp 4]) Tryz.func17 ?_
  (repeat'(first|apply kA|apply kB|((first|refine kc (N:=35) ?_|apply kD|apply kE|refine kx hG ?_|refine kx hS ?_|refine kx hH ?_|refine kx hN ?_|apply kF);simp +decide only[go_sem,lngRow,t1,z1,z2])|(apply kG;(simp +decide only[go_sem,lngRow,t1,z1,z2];rfl);all_goals(intro hcnd;try exact kz hcnd))))
  rw[ByteArray.append_assoc]
  rfl
 ·rw[if_neg (by have:n=0:=(by simpa using t1);omega)]
  refine kd (N:=35) (rs:= [.tmp 4]) Tryz.func17 ?_
  (repeat'(first|apply kA|apply kB|((first|refine kc (N:=35) ?_|apply kD|apply kE|refine kx hG ?_|refine kx hS ?_|refine kx hH ?_|apply kF);simp +decide only[go_sem,lngRow,t1])|(apply kG;(simp +decide only[go_sem,lngRow,t1];rfl);all_goals(intro hcnd;try exact kz hcnd))))
theorem joinR_snoc(l:List ByteArray)(s:ByteArray):joinR (l++ [s])=if l.length=0 then s else joinR l++comma++s:=by
 cases l with
 | nil=>rfl
 | cons x l=>simp[joinR,List.foldl_append]
theorem rJoined_D(l:List ByteArray)(hl:l.length≤1000)(hs: ∀s∈l,s.size≤100000):DCalls Tryz.prog 52 [dv (.sl 1 (strs l))] (dv (ls (joinR l))):=by
 have hmax:maxLen=9223372036854775807:=rfl
 refine kd (N:=22) (rs:= [.tmp 2]) Tryz.func52 ?_
 (repeat(first|apply kA|apply kB|((first|refine kc (N:=22) ?_|apply kD|apply kE);simp +decide only[go_sem])))
 refine dw_rng0 l (fun k=>kn 22 [(0,dv (.sl 1 (strs l))),(3,dv (ls (joinR (l.take k)))),(4,dv (li k))] noMem) (by omega) (kL rfl (by simp +decide only[go_sem,List.take_zero,joinR,empty_mk]) (by simp[noMem])) ?_ ?_
 ·intro k s he hk hm htk hlt hw
  have hx:=strs_at he
  have hst:joinR (l.take (k+1))=if(l.take k).length=0 then s else joinR (l.take k)++comma++s:=by rw[htk];exact joinR_snoc _ _
  have hkl:(l.take k).length=k:=by rw[List.length_take];omega
  have hle:=joinR_le3 (l:=l.take k) (fun s hs'=>hs s (List.mem_of_mem_take hs'))
  have hsl:=hs s hm
  have h10:(l.take k).length*(100000+2)≤1000*(100000+2):=Nat.mul_le_mul_right _ (by rw[List.length_take];omega)
  rw[hkl]at hst
  by_cases hk0:k=0
  ·rw[if_pos hk0]at hst
   have ha:joinR (l.take k)=ByteArray.empty:=by rw[hk0];rfl
   rw[ha]
   have t1:((0:Int)<(k:Int))=False:=by rw[hk0];simp
   have z3:((ByteArray.empty).size+s.size≤maxLen)=True:=eq_true (by rw[show (ByteArray.empty).size=0 from rfl];omega)
   (repeat'(first|apply kA|apply kB|((first|refine kc (N:=22) ?_|apply kD|apply kE);simp +decide only[go_sem,hlt,hw,hx,t1,z3])|(apply kG;(simp +decide only[go_sem,hlt,hw,hx,t1,z3];rfl);all_goals(intro hcnd;try exact kz hcnd))))
   exact kL rfl (by simp +decide only[go_sem,hst,ByteArray.empty_append]) (by simp[noMem])
  ·rw[if_neg hk0]at hst
   have t1:((0:Int)<(k:Int))=True:=by simp;omega
   generalize joinR (l.take k)=a at hst hle ⊢
   have z1:(a.size+ #[(44:UInt8),32].size≤maxLen)=True:=eq_true (by rw[show #[(44:UInt8),32].size=2 from rfl];omega)
   have z2:(a.size+ #[(44:UInt8),32].size+s.size≤maxLen)=True:=eq_true (by rw[show #[(44:UInt8),32].size=2 from rfl];omega)
   (repeat'(first|apply kA|apply kB|((first|refine kc (N:=22) ?_|apply kD|apply kE);simp +decide only[go_sem,hlt,hw,hx,t1,z1,z2])|(apply kG;(simp +decide only[go_sem,hlt,hw,hx,t1,z1,z2];rfl);all_goals(intro hcnd;try exact kz hcnd))))
   exact kL rfl (by simp +decide only[go_sem,hst,comma]) (by simp[noMem])
 ·intro hlt
  rw[List.take_length]
  (repeat'(first|apply kA|apply kB|((first|refine kc (N:=22) ?_|apply kD|apply kE|apply kF);simp +decide only[go_sem,hlt])|(apply kG;(simp +decide only[go_sem,hlt];rfl);all_goals(intro hcnd;try exact kz hcnd))))
end Go.Proofs.YtehdkccjaeckhaaGreatDoor
namespace Go.Proofs.YtehdkccjaeckhaaGreatDoor.V
open Go.Dl
attribute [local irreducible] DW DCalls ECalls wk
theorem less_D(a b c a' b' c':Int):DCalls Tryz.prog 150 [.agg [.c (.lit (.int .i64 a)),.c (.lit (.int .i64 b)),.c (.lit (.int .i64 c))],.agg [.c (.lit (.int .i64 a')),.c (.lit (.int .i64 b')),.c (.lit (.int .i64 c'))]]
   (.one (.c (.lit (.bool (decide (a<a')||(a==a'&&decide (c<c'))))))):=by
  refine kd (N:=24) (rs:= [.tmp 4]) Tryz.func150 ?_
  cases h1:decide (a<a')<;>cases h2:(a==a')<;>((repeat(first|apply kA|apply kB|((first|refine kc (N:=24) ?_|apply kD|apply kE);simp +decide only[go_sem,h1,h2])));apply kF;simp +decide only[go_sem])
theorem less_P(p q:Part):DCalls Tryz.prog 150 [.agg (p.enc.map T.c),.agg (q.enc.map T.c)] (dv (lb (p.lt q))):=less_D _ _ _ _ _ _
theorem insert_D(l:List Part)(p:Part)(hl:l.length≤1000000):DCalls Tryz.prog 128 [dv (.sl 3 (l.map Part.enc)),.agg (p.enc.map T.c)] (.one (.own 0 3 ((ins l p).map Part.enc))):=by
 have hmax:(1000000:Nat)<maxLen:=by simp[maxLen]
 have htl:List.take l.length (List.map Part.enc l)=List.map Part.enc l:=List.take_of_length_le (by simp)
 refine DCalls.own0 (n:=5) ?_
 refine kd (N:=51) (rs:= [.tmp 4]) Tryz.func128 ?_
 (repeat(first|apply kA|apply kB|((first|refine kc (N:=51) ?_|refine kj (N:=51) kt57 ?_|apply kD|apply kE);simp +decide only[go_sem,Part.enc])))
 refine dw_own 5 5 3 (by simp +decide only[go_sem]) ?_
 refine dw_loop_fam (fun k:Nat=>kn 51 [(0,dv (.sl 3 (l.map Part.enc))),(3,.one (.bx 3 3 0 0)),(5,.one (.own 5 3 ((l.take k).map Part.enc))),(6,dv (li k))] (ml [(3,[p.enc.map T.c])]))
   (fun k=>k≤l.length∧∀(j:Nat) q,j<k→l[j]? =some q→q.lt p=true) (fun k=>l.length - k) 0 (kM rfl (by simp +decide only[go_sem]) (by simp +decide only[go_sem,Part.enc])) ⟨by omega,fun j q hj=>by omega⟩ ?_
 rintro k ⟨hk,hall⟩
 rcases Nat.lt_or_ge k l.length with hlt|hge
 ·obtain⟨x,hx1⟩: ∃x,l[k]? =some x:=⟨l[k],List.getElem?_eq_getElem hlt⟩
  have hd:decide ((k:Int)<(l.length:Int))=true:=by simpa using hlt
  have hw:=wrap_succ k (by omega)
  have htk:List.map Part.enc (l.take (k+1))=List.map Part.enc (l.take k)++ [[li x.entry,li x.alt,li x.sense]]:=by
   rw[List.take_add_one,hx1];simp[Part.enc]
  have hlk:(l.take k).length=k:=by simp;omega
  (repeat(first|apply kA|apply kB|((first|refine kc (N:=51) ?_|refine kj (N:=51) kt57 ?_|apply kD|apply kE);simp +decide only[go_sem,hx1,hd,Part.enc])))
  (first|refine kx (less_P x p) ?_);simp +decide only[go_sem]
  apply kG;(simp +decide only[go_sem];rfl)
  ·intro h1
   (repeat(first|apply kA|apply kB|((first|refine kc (N:=51) ?_|refine kj (N:=51) kt57 ?_|apply kD|apply kE);simp +decide only[go_sem,hx1,hd,Part.enc,hw,hlk])))
   refine⟨by omega,?_⟩
   (repeat(first|apply kA|apply kB|((first|refine kc (N:=51) ?_|refine kj (N:=51) kt57 ?_|apply kD|apply kE);simp +decide only[go_sem,hx1,hd,Part.enc,hw,hlk])))
   refine⟨k+1,⟨by omega,fun j q hj hq=>?_⟩,by omega,kM rfl (by simp +decide only[go_sem,htk]) (by simp +decide only[go_sem,Part.enc])⟩
   by_cases hjk:j<k
   ·exact hall j q hjk hq
   ·obtain rfl:j=k:=by omega
    rw[hx1]at hq;injection hq with hq;subst hq;exact h1
  ·intro h1
   have hins:lows l p=k:=lows_eq l p k hall hk fun q hq=>by rw[hx1]at hq;injection hq with hq;subst hq;exact h1
   (repeat(first|apply kA|apply kB|((first|refine kc (N:=51) ?_|refine kj (N:=51) kt57 ?_|apply kD|apply kE);simp +decide only[go_sem,hx1,hd,Part.enc,hw,hlk])))
   refine⟨by omega,?_⟩
   (repeat(first|apply kA|apply kB|((first|refine kc (N:=51) ?_|refine kj (N:=51) kt57 ?_|apply kD|apply kE);simp +decide only[go_sem,hx1,hd,Part.enc,hw,hlk])))
   apply kG;(simp +decide only[go_sem];rfl)
   ·intro h2
    have hxp:x=p:=(part_ext x p).2 (by simpa using h2)
    have hk1:k+1≤l.length:=hlt
    (repeat(first|apply kA|apply kB|((first|refine kc (N:=51) ?_|refine kj (N:=51) kt57 ?_|apply kD|apply kE);simp +decide only[go_sem,hx1,hd,Part.enc,hw,hlk,hk1,htl])))
    refine⟨by simp;omega,?_⟩
    apply kF;simp +decide only[go_sem,ins,hins]
    simp[hx1,hxp,List.map_take,List.map_drop,Part.enc]
   ·intro h2
    have hxp: ¬x=p:=fun e=>by simp[(part_ext x p).1 e]at h2
    (repeat(first|apply kA|apply kB|((first|refine kc (N:=51) ?_|refine kj (N:=51) kt57 ?_|apply kD|apply kE);simp +decide only[go_sem,hx1,hd,Part.enc,hw,hlk,hk,htl])))
    refine⟨by simp;omega,?_⟩
    apply kF;simp +decide only[go_sem,ins,hins]
    simp[hx1,hxp,List.map_take,List.map_drop,Part.enc]
 ·have hd:decide ((k:Int)<(l.length:Int))=false:=by simpa using hge
  have hkl:k=l.length:=by omega
  have hins:lows l p=k:=lows_eq l p k hall hk fun q hq=>by rw[List.getElem?_eq_none (by omega)]at hq;cases hq
  have hlk:(l.take k).length=k:=by simp;omega
  (repeat(first|apply kA|apply kB|((first|refine kc (N:=51) ?_|refine kj (N:=51) kt57 ?_|apply kD|apply kE);simp +decide only[go_sem,hd,Part.enc])))
  apply kG;(simp +decide only[go_sem];rfl)
  ·simp
  intro _
  (repeat(first|apply kA|apply kB|((first|refine kc (N:=51) ?_|refine kj (N:=51) kt57 ?_|apply kD|apply kE);simp +decide only[go_sem,hd,Part.enc,hlk])))
  refine⟨by omega,?_⟩
  (repeat(first|apply kA|apply kB|((first|refine kc (N:=51) ?_|refine kj (N:=51) kt57 ?_|apply kD|apply kE);simp +decide only[go_sem,hd,Part.enc,hlk])))
  apply kG;(simp +decide only[go_sem];rfl)
  ·simp
  intro _
  (repeat(first|apply kA|apply kB|((first|refine kc (N:=51) ?_|refine kj (N:=51) kt57 ?_|apply kD|apply kE);simp +decide only[go_sem,hd,Part.enc,hlk,hk,htl])))
  refine⟨by simp;omega,?_⟩
  apply kF;simp +decide only[go_sem,ins,hins]
  have hnone:l[k]? =none:=List.getElem?_eq_none (by omega)
  simp[hnone,List.map_take,List.map_drop,Part.enc]
theorem put_D(l:List Row)(g:ByteArray)(p:Part)(hl:l.length≤1000000)(hs: ∀r∈l,r.senses.length≤1000000):
  DCalls Tryz.prog 94 [dv (.sl 2 (l.map Row.enc)),dv (ls g),.agg (p.enc.map T.c)] (.one (.own 0 2 ((putR l g p).map Row.enc))):=by
 have hmax:(1000000:Nat)<maxLen:=by simp[maxLen]
 have htl:List.take l.length (List.map Row.enc l)=List.map Row.enc l:=List.take_of_length_le (by simp)
 refine DCalls.own0 (n:=7) ?_
 refine kd (N:=66) (rs:= [.tmp 6]) Tryz.func94 ?_
 (repeat(first|apply kA|apply kB|((first|refine kc (N:=66) ?_|refine kj (N:=66) kt58 ?_|apply kD|apply kE);simp +decide only[go_sem,Part.enc])))
 refine dw_own 7 7 2 (by simp +decide only[go_sem]) ?_
 refine dw_loop_fam (fun k:Nat=>kn 66 [(0,dv (.sl 2 (l.map Row.enc))),(1,dv (ls g)),(5,.one (.bx 5 3 0 0)),(7,.one (.own 7 2 ((l.take k).map Row.enc))),(8,dv (li k))] (ml [(5,[p.enc.map T.c])]))
   (fun k=>k≤l.length∧∀(j:Nat) q,j<k→l[j]? =some q→strLt q.gloss g=true) (fun k=>l.length - k) 0 (kM rfl (by simp +decide only[go_sem]) (by simp +decide only[go_sem,Part.enc])) ⟨by omega,fun j q hj=>by omega⟩ ?_
 rintro k ⟨hk,hall⟩
 have hlk:(l.take k).length=k:=by simp;omega
 rcases Nat.lt_or_ge k l.length with hlt|hge
 ·obtain⟨x,hx1⟩: ∃x,l[k]? =some x:=⟨l[k],List.getElem?_eq_getElem hlt⟩
  have hd:decide ((k:Int)<(l.length:Int))=true:=by simpa using hlt
  have hw:=wrap_succ k (by omega)
  have htk:List.map Row.enc (l.take (k+1))=List.map Row.enc (l.take k)++ [[ls x.gloss,.sl 3 (x.senses.map Part.enc)]]:=by
   rw[List.take_add_one,hx1];simp[Row.enc]
  (repeat(first|apply kA|apply kB|((first|refine kc (N:=66) ?_|refine kj (N:=66) kt58 ?_|apply kD|apply kE);simp +decide only[go_sem,hx1,hd,Row.enc])))
  apply kG;(simp +decide only[go_sem];rfl)
  ·intro h1
   (repeat(first|apply kA|apply kB|((first|refine kc (N:=66) ?_|refine kj (N:=66) kt58 ?_|apply kD|apply kE);simp +decide only[go_sem,hx1,hd,Row.enc,hw,hlk])))
   refine⟨by omega,?_⟩
   (repeat(first|apply kA|apply kB|((first|refine kc (N:=66) ?_|refine kj (N:=66) kt58 ?_|apply kD|apply kE);simp +decide only[go_sem,hx1,hd,Row.enc,hw,hlk])))
   refine⟨k+1,⟨by omega,fun j q hj hq=>?_⟩,by omega,kM rfl (by simp +decide only[go_sem,htk]) (by simp +decide only[go_sem,Part.enc])⟩
   by_cases hjk:j<k
   ·exact hall j q hjk hq
   ·obtain rfl:j=k:=by omega
    rw[hx1]at hq;injection hq with hq;subst hq;exact h1
  ·intro h1
   have hins:lowR l g=k:=lowR_eq l g k hall hk fun q hq=>by rw[hx1]at hq;injection hq with hq;subst hq;exact h1
   have hxs:=hs x (List.mem_of_getElem? hx1)
   (repeat(first|apply kA|apply kB|((first|refine kc (N:=66) ?_|refine kj (N:=66) kt58 ?_|apply kD|apply kE);simp +decide only[go_sem,hx1,hd,Row.enc,hw,hlk])))
   apply kG;(simp +decide only[go_sem];rfl)
   ·intro h2
    have hk1:k+1≤l.length:=hlt
    (repeat(first|apply kA|apply kB|((first|refine kc (N:=66) ?_|refine kj (N:=66) kt58 ?_|apply kD|apply kE);simp +decide only[go_sem,hx1,hd,Row.enc,hw,hlk,Part.enc])))
    (first|refine kx (insert_D x.senses p hxs) ?_);simp +decide only[go_sem]
    (repeat(first|apply kA|apply kB|((first|refine kc (N:=66) ?_|refine kj (N:=66) kt58 ?_|apply kD|apply kE);simp +decide only[go_sem,hx1,hd,Row.enc,hw,hlk,Part.enc,hk1,htl])))
    refine⟨by omega,by simp;omega,?_⟩
    apply kF;simp +decide only[go_sem]
    simp[putR,atR,skipR,hins,hx1,h2,Row.enc,List.map_take,List.map_drop]
   ·intro h2
    (repeat(first|apply kA|apply kB|((first|refine kc (N:=66) ?_|refine kj (N:=66) kt58 ?_|apply kD|apply kE);simp +decide only[go_sem,hx1,hd,Row.enc,hw,hlk,Part.enc])))
    (first|refine kx (insert_D [] p (by simp)) ?_);simp +decide only[go_sem]
    (repeat(first|apply kA|apply kB|((first|refine kc (N:=66) ?_|refine kj (N:=66) kt58 ?_|apply kD|apply kE);simp +decide only[go_sem,hx1,hd,Row.enc,hw,hlk,Part.enc,hk,htl])))
    refine⟨by omega,by simp;omega,?_⟩
    apply kF;simp +decide only[go_sem]
    simp[putR,atR,skipR,hins,hx1,h2,Row.enc,List.map_take,List.map_drop]
 ·have hd:decide ((k:Int)<(l.length:Int))=false:=by simpa using hge
  have hnone:l[k]? =none:=List.getElem?_eq_none (by omega)
  have hins:lowR l g=k:=lowR_eq l g k hall hk fun q hq=>by rw[hnone]at hq;cases hq
  (repeat(first|apply kA|apply kB|((first|refine kc (N:=66) ?_|refine kj (N:=66) kt58 ?_|apply kD|apply kE);simp +decide only[go_sem,hd,Row.enc,Part.enc])))
  apply kG;(simp +decide only[go_sem];rfl)
  ·simp
  intro _
  (repeat(first|apply kA|apply kB|((first|refine kc (N:=66) ?_|refine kj (N:=66) kt58 ?_|apply kD|apply kE);simp +decide only[go_sem,hd,Row.enc,Part.enc])))
  apply kG;(simp +decide only[go_sem];rfl)
  ·simp
  intro _
  (repeat(first|apply kA|apply kB|((first|refine kc (N:=66) ?_|refine kj (N:=66) kt58 ?_|apply kD|apply kE);simp +decide only[go_sem,hd,Row.enc,Part.enc])))
  (first|refine kx (insert_D [] p (by simp)) ?_);simp +decide only[go_sem]
  (repeat(first|apply kA|apply kB|((first|refine kc (N:=66) ?_|refine kj (N:=66) kt58 ?_|apply kD|apply kE);simp +decide only[go_sem,hd,Row.enc,hlk,Part.enc,hk,htl])))
  refine⟨by omega,by simp;omega,?_⟩
  apply kF;simp +decide only[go_sem]
  simp[putR,atR,skipR,hins,hnone,Row.enc,List.map_take,List.map_drop]
theorem buildN_ok{l:List Ent}(hs: ∀e∈l,e.senses.length≤1000): ∀k,RowsOk (1000*k) (buildN l k)
 | 0=>⟨by simp[buildN],fun r hr=>by simp[buildN]at hr⟩
 | k+1=>by
  simp only[buildN]
  split
  ·rename_i e he
   have:=hs e (List.mem_of_getElem? he)
   exact(putsN_ok (buildN_ok hs k) _ _ _).mono (by omega)
  ·exact(buildN_ok hs k).mono (by omega)
theorem build_D(l:List Ent)(hl:l.length≤500)(hs: ∀e∈l,e.senses.length≤1000):DCalls Tryz.prog 59 [dv (.sl 8 (l.map Ent.enc))] (dv (.sl 2 ((buildR l).map Row.enc))):=by
 have hmax:(1000000:Nat)<maxLen:=by simp[maxLen]
 refine kd (N:=41) (rs:= [.tmp 2]) Tryz.func59 ?_
 (repeat(first|apply kA|apply kB|((first|refine kc (N:=41) ?_|refine kj (N:=41) kt59 ?_|apply kD|apply kE);simp +decide only[go_sem])))
 refine dw_loop_fam (fun k:Nat=>kn 41 [(0,dv (.sl 8 (l.map Ent.enc))),(3,dv (.sl 2 ((buildN l k).map Row.enc))),(7,dv (li l.length)),(8,dv (li k))] noMem)
  (fun k=>k≤l.length) (fun k=>l.length - k) 0 (kL rfl (by simp +decide only[go_sem,buildN]) (by simp[noMem])) (by omega) ?_
 intro k hk
 rcases Nat.lt_or_ge k l.length with hlt|hge
 ·obtain⟨x,hx1⟩: ∃x,l[k]? =some x:=⟨l[k],List.getElem?_eq_getElem hlt⟩
  have hd:decide ((k:Int)<(l.length:Int))=true:=by simpa using hlt
  have hw:=wrap_succ k (by omega)
  have hxs:=hs x (List.mem_of_getElem? hx1)
  have hok:=buildN_ok hs k
  have hstep:buildN l (k+1)=putsN (buildN l k) x.id x.senses x.senses.length:=by simp only[buildN,hx1]
  (repeat(first|apply kA|apply kB|((first|refine kc (N:=41) ?_|refine kj (N:=41) kt59 ?_|apply kD|apply kE);simp +decide only[go_sem,hd])))
  apply kG;(simp +decide only[go_sem];rfl)
  ·intro _
   (repeat(first|apply kA|apply kB|((first|refine kc (N:=41) ?_|refine kj (N:=41) kt59 ?_|apply kD|apply kE);simp +decide only[go_sem,hx1,Ent.enc])))
   refine dw_loop_fam (fun j:Nat=>kn 41 [(0,dv (.sl 8 (l.map Ent.enc))),(3,dv (.sl 2 ((putsN (buildN l k) x.id x.senses j).map Row.enc))),(4,dv (li k)),(7,dv (li l.length)),(8,dv (li k)),(16,dv (li x.senses.length)),(17,dv (li j))] noMem)
    (fun j=>j≤x.senses.length) (fun j=>x.senses.length - j) 0 (kL rfl (by simp +decide only[go_sem,putsN]) (by simp[noMem])) (by omega) ?_
   intro j hj
   rcases Nat.lt_or_ge j x.senses.length with hjlt|hjge
   ·obtain⟨y,hy1⟩: ∃y,x.senses[j]? =some y:=⟨x.senses[j],List.getElem?_eq_getElem hjlt⟩
    have hd2:decide ((j:Int)<(x.senses.length:Int))=true:=by simpa using hjlt
    have hw2:=wrap_succ j (by omega)
    have hstep2:putsN (buildN l k) x.id x.senses (j+1)=putR (putsN (buildN l k) x.id x.senses j) y.gloss (pt x.id j):=by simp only[putsN,hy1]
    have hok2:=(putsN_ok hok x.id x.senses j).mono (show 1000*k+j≤1000000 by omega)
    (repeat(first|apply kA|apply kB|((first|refine kc (N:=41) ?_|refine kj (N:=41) kt59 ?_|apply kD|apply kE);simp +decide only[go_sem,hd2])))
    apply kG;(simp +decide only[go_sem];rfl)
    ·intro _
     (repeat(first|apply kA|apply kB|((first|refine kc (N:=41) ?_|refine kj (N:=41) kt59 ?_|apply kD|apply kE);simp +decide only[go_sem,hx1,hy1,Ent.enc,Sns.enc])))
     (first|refine kx (put_D (putsN (buildN l k) x.id x.senses j) y.gloss (pt x.id j) hok2.1 hok2.2) ?_);simp +decide only[go_sem]
     (repeat(first|apply kA|apply kB|((first|refine kc (N:=41) ?_|refine kj (N:=41) kt59 ?_|apply kD|apply kE);simp +decide only[go_sem,hw2])))
     exact⟨j+1,by omega,by omega,kL rfl (by simp +decide only[go_sem,hstep2]) (by simp[noMem])⟩
    ·simp
   ·have hd2:decide ((j:Int)<(x.senses.length:Int))=false:=by simpa using hjge
    have hjl:j=x.senses.length:=by omega
    subst hjl
    (repeat(first|apply kA|apply kB|((first|refine kc (N:=41) ?_|refine kj (N:=41) kt59 ?_|apply kD|apply kE);simp +decide only[go_sem,hd2])))
    apply kG;(simp +decide only[go_sem];rfl)
    ·simp
    intro _
    (repeat(first|apply kA|apply kB|((first|refine kc (N:=41) ?_|refine kj (N:=41) kt59 ?_|apply kD|apply kE);simp +decide only[go_sem,hw])))
    exact⟨k+1,by omega,by omega,kL rfl (by simp +decide only[go_sem,hstep]) (by simp[noMem])⟩
  ·simp
 ·have hd:decide ((k:Int)<(l.length:Int))=false:=by simpa using hge
  have hkl:k=l.length:=by omega
  subst hkl
  (repeat(first|apply kA|apply kB|((first|refine kc (N:=41) ?_|refine kj (N:=41) kt59 ?_|apply kD|apply kE);simp +decide only[go_sem,hd])))
  apply kG;(simp +decide only[go_sem];rfl)
  ·simp
  intro _
  (repeat(first|apply kA|apply kB|((first|refine kc (N:=41) ?_|refine kj (N:=41) kt59 ?_|apply kD|apply kE);simp +decide only[go_sem])))
  apply kF;simp +decide only[go_sem]
  rfl
end Go.Proofs.YtehdkccjaeckhaaGreatDoor.V
namespace Go.Proofs.YtehdkccjaeckhaaGreatDoor
open Go.Dl
open S (usort)
attribute [local irreducible] DW DCalls ECalls wk IW
theorem rReversal_D(x:LX){d:Dic}(hd:OkD d):DCalls Tryz.prog 27 [.agg (lngRow x d)] (dv (.sl 1 (strs d.rev))):=by
 have hmax:maxLen=9223372036854775807:=rfl
 have hf:=hd.few
 have hB:=V.build_D d.lex (by omega) (fun e he=>by have:=(links_few hd he).2;omega)
 obtain⟨hr1,hr2⟩:=rev_few hd
 rw[← rev_all]
 refine kd (N:=80) (rs:= [.tmp 2]) Tryz.func27 ?_
 (repeat'(first|apply kA|apply kB|((first|refine kc (N:=80) ?_|refine kj (N:=80) kt60 ?_|apply kD|apply kE|refine kx hB ?_);simp +decide only[go_sem,lngRow])|(apply kG;(simp +decide only[go_sem,lngRow];rfl);all_goals(intro hcnd;try exact kz hcnd))))
 refine dw_own 3 3 1 (by simp +decide only[go_sem]) ?_
 refine dw_rng0 (V.buildR d.lex) (fun k=>kn 80 [(1,.one (.bx 1 9 0 0)),(3,.one (.own 3 1 (strs (d.revP k)))),(4,dv (.sl 2 ((V.buildR d.lex).map V.Row.enc))),(5,dv (li k))] (ml [(1,[lngRow x d])])) (by omega)
  (kM rfl (by simp +decide only[go_sem,lngRow,Dic.revP,List.take_zero,List.map_nil,List.length_cons,List.length_nil]) (by simp +decide only[go_sem,lngRow])) ?_ ?_
 ·intro k r hy hk hm htk hlt hw
  have hst:=rev_take (d:=d) hy
  have hr5:=hr2 r hm
  have hgz:=row_gloss hd hm
  have hpz:=parts_le hd hm
  have hJ:=rJoined_D (d.parts r.senses) (by rw[parts_len];omega) (fun s hs=>by have:=(hpz s hs).1;omega)
  have hjl:=joinR_le3 (fun s hs=>(hpz s hs).1)
  rw[parts_len]at hjl
  have h10:r.senses.length*(603+2)≤25*(603+2):=Nat.mul_le_mul_right _ hr5
  have hrl:(d.revP k).length≤25:=by unfold Dic.revP;rw[List.length_map,List.length_take];omega
  have r1:(((d.revP k).length+1)*16≤140737488355328)=True:=eq_true (by omega)
  rw[hst]
  unfold Dic.revS
  (repeat'(first|apply kA|apply kB|((first|refine kc (N:=80) ?_|refine kj (N:=80) kt60 ?_|apply kD|apply kE);simp +decide only[go_sem,hlt,hw,hy,V.Row.enc,lngRow])|(apply kG;(simp +decide only[go_sem,hlt,hw,hy,V.Row.enc,lngRow];rfl);all_goals(intro hcnd;try exact kz hcnd))))
  refine dw_own 6 6 1 (by simp +decide only[go_sem]) ?_
  refine dw_rng0 r.senses (fun j=>kn 80 [(1,.one (.bx 1 9 0 0)),(3,.one (.own 3 1 (strs (d.revP k)))),(4,dv (.sl 2 ((V.buildR d.lex).map V.Row.enc))),(5,dv (li k)),(6,.one (.own 6 1 (strs (d.parts (r.senses.take j))))),(7,dv (li j))] (ml [(1,[lngRow x d])])) (by omega)
   (kM rfl (by simp +decide only[go_sem,lngRow,Dic.parts,List.take_zero,List.map_nil,List.length_cons,List.length_nil]) (by simp +decide only[go_sem,lngRow])) ?_ ?_
  ·intro j p hp hj hpm htj hlt2 hw2
   have hpo:=rev_part hd hm hpm
   have hH:=rHead56_D x hd p.entry
   have hhl:=head_le hd p.entry
   have hG:=rGet_D d.lex p.entry (by omega)
   have hpt:=parts_take (d:=d) hp
   have hlo:=hpo.lo
   have hhi:=hpo.hi
   have w1:IntKind.i64.wrap (p.sense+1)=p.sense+1:=wrap_i64 (by omega) (by omega)
   have hN:=rTextN_D (p.sense+1) (by omega) (by omega)
   have hnl:=numB_le (n:=p.sense+1) (by omega) (by omega)
   have hpl:(d.parts (r.senses.take j)).length≤25:=by rw[parts_len,List.length_take];omega
   have r2:(((d.parts (r.senses.take j)).length+1)*16≤140737488355328)=True:=eq_true (by omega)
   rw[hpt]
   unfold Dic.partS
   simp only[lngRow,Ent.row]at hH hG
   generalize d.head p.entry=hh at hH hhl ⊢
   generalize getE d.lex p.entry=ge at hG ⊢
   obtain⟨e,b⟩:=ge
   simp only at hG ⊢
   by_cases h1:1<e.senses.length
   ·rw[if_pos h1]
    have t1:((1:Int)<(e.senses.length:Int))=True:=by simp;omega
    have z1:(hh.size+ #[(32:UInt8),40].size≤maxLen)=True:=mx (by simp only[List.size_toArray,List.length_cons,List.length_nil];omega)
    have z2:(hh.size+ #[(32:UInt8),40].size+(numB (p.sense+1)).size≤maxLen)=True:=mx (by simp only[List.size_toArray,List.length_cons,List.length_nil];omega)
    have z3:(hh.size+ #[(32:UInt8),40].size+(numB (p.sense+1)).size+ #[(41:UInt8)].size≤maxLen)=True:=mx (by simp only[List.size_toArray,List.length_cons,List.length_nil];omega)
    generalize numB (p.sense+1)=nb at hN hnl z1 z2 z3 ⊢
    (repeat'(first|apply kA|apply kB|((first|refine kc (N:=80) ?_|refine kj (N:=80) kt60 ?_|apply kD|apply kE|refine kx hH ?_|refine kx hG ?_|refine kx hN ?_);simp +decide only[go_sem,hlt2,hw2,hy,hp,t1,w1,z1,z2,z3,r2,V.Part.enc,V.Row.enc,Ent.row,lngRow])|(apply kG;(simp +decide only[go_sem,hlt2,hw2,hy,hp,t1,w1,z1,z2,z3,r2,V.Part.enc,V.Row.enc,Ent.row,lngRow];rfl);all_goals(intro hcnd;try exact kz hcnd))))
    exact kM rfl (by simp +decide only[go_sem,lngRow,openP,closeP,ByteArray.append_assoc]) (by simp +decide only[go_sem,lngRow])
   ·rw[if_neg h1]
    have t1:((1:Int)<(e.senses.length:Int))=False:=by simp;omega
    (repeat'(first|apply kA|apply kB|((first|refine kc (N:=80) ?_|refine kj (N:=80) kt60 ?_|apply kD|apply kE|refine kx hH ?_|refine kx hG ?_|refine kx hN ?_);simp +decide only[go_sem,hlt2,hw2,hy,hp,t1,r2,V.Part.enc,V.Row.enc,Ent.row,lngRow])|(apply kG;(simp +decide only[go_sem,hlt2,hw2,hy,hp,t1,r2,V.Part.enc,V.Row.enc,Ent.row,lngRow];rfl);all_goals(intro hcnd;try exact kz hcnd))))
    exact kM rfl (by simp +decide only[go_sem,lngRow]) (by simp +decide only[go_sem,lngRow])
  ·intro hlt2
   rw[List.take_length]
   generalize joinR (d.parts r.senses)=jj at hJ hjl ⊢
   have z1:(r.gloss.size+ #[(58:UInt8),32].size≤maxLen)=True:=mx (by simp only[List.size_toArray,List.length_cons,List.length_nil];omega)
   have z2:(r.gloss.size+ #[(58:UInt8),32].size+jj.size≤maxLen)=True:=mx (by simp only[List.size_toArray,List.length_cons,List.length_nil];omega)
   (repeat'(first|apply kA|apply kB|((first|refine kc (N:=80) ?_|refine kj (N:=80) kt60 ?_|apply kD|apply kE|refine kx hJ ?_);simp +decide only[go_sem,hlt2,hy,hw,z1,z2,r1,V.Row.enc,lngRow])|(apply kG;(simp +decide only[go_sem,hlt2,hy,hw,z1,z2,r1,V.Row.enc,lngRow];rfl);all_goals(intro hcnd;try exact kz hcnd))))
   exact kM rfl (by simp +decide only[go_sem,lngRow,colonS]) (by simp +decide only[go_sem,lngRow])
 ·intro hlt
  (repeat'(first|apply kA|apply kB|((first|refine kc (N:=80) ?_|refine kj (N:=80) kt60 ?_|apply kD|apply kE);simp +decide only[go_sem,hlt,lngRow])|(apply kG;(simp +decide only[go_sem,hlt,lngRow];rfl);all_goals(intro hcnd;try exact kz hcnd))))
  refine dw_slot 2 _ (DLe.own_ _ _ _) ?_
  apply kF;simp +decide only[go_sem]
theorem lawReversal(g:Lng)(hm:MidL g):DCalls Tryz.prog 7 [.agg (lngRow g.x g.d)] (dv (lb true)):=by
 have hmax:maxLen=9223372036854775807:=rfl
 have hL:=rLight_D g hm
 have hW:=awake_D
 simp only[lngRow]at hL
 refine kd (N:=15) (rs:= [.tmp 2]) Tryz.func7 ?_
 cases t1:lightB g
 ·rw[t1]at hL
  (repeat'(first|apply kA|apply kB|((first|refine kc (N:=15) ?_|refine kj (N:=15) kt61 ?_|apply kD|apply kE|refine kx hL ?_|refine kx hW ?_|apply kF);simp +decide only[go_sem,lngRow])|(apply kG;(simp +decide only[go_sem,lngRow];rfl);all_goals(intro hcnd;try exact kz hcnd))|((first|apply kH|apply kI)<;>(intro hcnd;simp +decide only[go_sem,hcnd,lngRow]))))
 rw[t1]at hL
 have hok:=light_ok hm t1
 have hA:=reversal_D g.x hok
 have hB:=rReversal_D g.x hok
 have hE:=equal_D g.d.rev g.d.rev (by have:=(rev_few hok).1;unfold Dic.rev;rw[List.length_map];omega)
 rw[decide_eq_true rfl]at hE
 simp only[lngRow]at hA hB
 (repeat'(first|apply kA|apply kB|((first|refine kc (N:=15) ?_|refine kj (N:=15) kt61 ?_|apply kD|apply kE|refine kx hL ?_|refine kx hW ?_|refine kx hA ?_|refine kx hB ?_|refine kx hE ?_|apply kF);simp +decide only[go_sem,lngRow])|(apply kG;(simp +decide only[go_sem,lngRow];rfl);all_goals(intro hcnd;try exact kz hcnd))|((first|apply kH|apply kI)<;>(intro hcnd;simp +decide only[go_sem,hcnd,lngRow]))))
end Go.Proofs.YtehdkccjaeckhaaGreatDoor
