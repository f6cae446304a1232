/- Dictionaries: the laws that compare with the reference. -/
import Derived.Lib.ItoaNum
import Derived.Lib.AtoiAll
import Derived.WalkKit
import Derived.BigCall
import Derived.Lib.LaidTab
import Derived.Test.YtehdkccjaeckhaaGreatDoorm5
set_option linter.all false
set_option linter.unusedVariables false
set_option linter.unusedSimpArgs false
set_option maxRecDepth 10000
set_option maxHeartbeats 8000000
namespace Go.Proofs.YtehdkccjaeckhaaGreatDoor
abbrev kpxc33:List (Nat×Go.Dl.Mode):= [(0,.light),(1,.light),(2,.light),(3,.light),(4,.light),(5,.step)]
abbrev kpxc34:List (Nat×Go.Dl.Mode):= [(0,.light),(1,.light),(2,.light),(3,.light),(4,.light),(5,.light),(6,.light),(7,.step),(8,.light),(9,.light),(10,.light),(11,.light),(12,.light),(13,.light),(14,.light),(15,.light),(16,.light),(17,.light),(18,.light),(19,.light),(20,.light),(21,.light),(22,.light),(23,.light),(24,.light),(25,.light),(26,.light),(27,.light),(28,.light)]
abbrev kpxc35:List (Nat×Go.Dl.Mode):= [(0,.light),(1,.light),(2,.light),(3,.light),(4,.light),(5,.step),(6,.step),(7,.light),(8,.step),(9,.light),(10,.light)]
abbrev kt31:Nat→List (Nat×Go.Dl.Mode):=fun n=>match n with|8=>kpm5|_=> [(9999,.light)]
abbrev kt33:Nat→List (Nat×Go.Dl.Mode):=fun n=>match n with|6=>kpm30|_=> [(9999,.light)]
abbrev kt43:Nat→List (Nat×Go.Dl.Mode):=fun n=>match n with|5=>kpxc33|6=>kpm2|_=> [(9999,.light)]
abbrev kt44:Nat→List (Nat×Go.Dl.Mode):=fun n=>match n with|12=>kpxc34|_=> [(9999,.light)]
abbrev kt45:Nat→List (Nat×Go.Dl.Mode):=fun n=>match n with|5=>kpm12|_=> [(9999,.light)]
abbrev kt46:Nat→List (Nat×Go.Dl.Mode):=fun n=>match n with|5=>kpm17|11=>kpm7|18=>kpm2|32=>kpm16|_=> [(9999,.light)]
abbrev kt47:Nat→List (Nat×Go.Dl.Mode):=fun n=>match n with|3=>kpxc35|_=> [(9999,.light)]
end Go.Proofs.YtehdkccjaeckhaaGreatDoor
open Go.Dl renaming dw_seq → kA, dw_block → kB, dw_reg → kC, dw_skip → kD, dw_exit → kE, dw_ret → kF, dw_cond → kG, guardC_f → kH, guardC_t → kI, dw_drw → kJ, dw_weaken → kK, sub_kn → kL, sub_ml → kM
open Go.Dl.CallC renaming mk → kN, light → kO
open Go.Dl.LeL renaming of_eq → kP
namespace Go.Proofs.YtehdkccjaeckhaaGreatDoor
open Go.Dl
open S (usort)
attribute [local irreducible] DW DCalls ECalls wk IW
theorem put_ok(l:List Ent)(p:Ent→Bool)(n:Int)(hl:l.length≤999999):DCalls Tryz.prog 61 [dv (.sl 1 (ints (usort (idsOf l p)))),dv (li n)] (dv (.sl 1 (ints (usort (idsOf l p++ [n]))))):=by
 have h:=r1Put_D (usort (idsOf l p)) n (usort_spec _).1 (by have:=usort_lenI (idsOf l p);have:=idsOf_len l p;omega)
 rwa [putI_usort]at h
theorem idx_up{l:List Int}(k:Nat){x:Int}(h:l[k]? =some x)(hi: ∀y∈l.take k,(x==y)=false):idxF (fun y=>x==y) l=(k:Int):=idxF_at h hi (by simp)
theorem rHom_D(l:List Ent)(id:Int)(hl:l.length≤999999)(hm: ∀e∈l,e.form.length≤maxLen):DCalls Tryz.prog 44 [dv (.sl 8 (l.map Ent.enc)),dv (li id)] (dv (li (homE l id))):=by
 have hmax:maxLen=9223372036854775807:=rfl
 have hG:=rGet_D l id (by omega)
 have hhas:=getE_has l id
 have hmem:(getE l id).2=true→(getE l id).1∈l∧(getE l id).1.id=id:=fun h=>by
  unfold getE at h ⊢
  cases hf:l.find? (fun e=>e.id==id)with
  | none=>rw[hf]at h;cases h
  | some e=>exact⟨List.mem_of_find?_eq_some hf,by simpa using List.find?_some hf⟩
 unfold homE
 generalize getE l id=p at hG hmem hhas
 obtain⟨o,b⟩:=p
 simp only[Ent.row]at hG
 refine kd (N:=58) (rs:= [.tmp 4]) Tryz.func44 ?_
 cases b
 ·(repeat'(first|apply kA|apply kB|((first|refine kc (N:=58) ?_|refine kj (N:=58) kt31 ?_|apply kD|apply kE|refine kx hG ?_|apply kF);simp +decide only[go_sem])|(apply kG;(simp +decide only[go_sem];rfl);all_goals(intro hcnd;try exact kz hcnd))|((first|apply kH|apply kI)<;>(intro hcnd;simp +decide only[go_sem,hcnd]))))
 ·obtain⟨ho,hoid⟩:=hmem rfl
  simp only at ho hoid
  (repeat'(first|apply kA|apply kB|((first|refine kc (N:=58) ?_|refine kj (N:=58) kt31 ?_|apply kD|apply kE|refine kx hG ?_);simp +decide only[go_sem])|(apply kG;(simp +decide only[go_sem];rfl);all_goals(intro hcnd;try exact kz hcnd))|((first|apply kH|apply kI)<;>(intro hcnd;simp +decide only[go_sem,hcnd]))))
  refine dw_slot 7 (dv (.sl 1 [])) (by simp +decide only[go_sem]) ?_
  refine dw_after (fun _:Unit=>kn 58 [(1,dv (li id)),(7,dv (.sl 1 (ints (usort (idsOf l fun e=>decide (e.form=o.form))))))] noMem) (fun _=>True) ?_ ?_
  ·refine dw_rng0 l (fun k=>kn 58 [(0,dv (.sl 8 (l.map Ent.enc))),(1,dv (li id)),(5,.one (.bx 5 8 0 0)),(7,dv (.sl 1 (ints (usort (idsOf (l.take k) fun e=>decide (e.form=o.form)))))),(19,dv (li l.length)),(20,dv (li k))] (ml [(5,[o.row])])) (by omega) (kM rfl (by simp +decide only[go_sem,List.take_zero,idsOf_nil,usort_nil,List.map_nil]) (by simp +decide only[go_sem,Ent.row])) ?_ ?_
   ·intro k e he hk hmm htk hlt hw
    have hS:=sameI_D e.form o.form (hm e hmm)
    have hP:=put_ok (l.take k) (fun e=>decide (e.form=o.form)) e.id (by rw[List.length_take];omega)
    have hst:usort (idsOf (l.take (k+1)) fun e=>decide (e.form=o.form))=if decide (e.form=o.form)=true then usort (idsOf (l.take k) (fun e=>decide (e.form=o.form))++ [e.id])else usort (idsOf (l.take k) fun e=>decide (e.form=o.form)):=by
     rw[htk,idsOf_snoc]
     by_cases h:decide (e.form=o.form)=true
     ·rw[if_pos h,if_pos h]
     ·rw[if_neg h,if_neg h,List.append_nil]
    cases t1:decide (e.form=o.form)
    ·rw[t1]at hS hst
     rw[if_neg (by decide)]at hst
     (repeat'(first|apply kA|apply kB|((first|refine kc (N:=58) ?_|refine kj (N:=58) kt31 ?_|apply kD|apply kE|refine kx hS ?_|apply kF);simp +decide only[go_sem,hlt,hw,he,Ent.enc,Ent.row])|(apply kG;(simp +decide only[go_sem,hlt,hw,he,Ent.enc,Ent.row];rfl);all_goals(intro hcnd;try exact kz hcnd))|((first|apply kH|apply kI)<;>(intro hcnd;simp +decide only[go_sem,hcnd,hlt,hw,he,Ent.enc,Ent.row]))))
     exact kM rfl (by simp +decide only[go_sem,hst]) (by simp +decide only[go_sem,Ent.row])
    ·rw[t1]at hS hst
     rw[if_pos rfl]at hst
     (repeat'(first|apply kA|apply kB|((first|refine kc (N:=58) ?_|refine kj (N:=58) kt31 ?_|apply kD|apply kE|refine kx hS ?_|refine kx hP ?_|apply kF);simp +decide only[go_sem,hlt,hw,he,Ent.enc,Ent.row])|(apply kG;(simp +decide only[go_sem,hlt,hw,he,Ent.enc,Ent.row];rfl);all_goals(intro hcnd;try exact kz hcnd))|((first|apply kH|apply kI)<;>(intro hcnd;simp +decide only[go_sem,hcnd,hlt,hw,he,Ent.enc,Ent.row]))))
     exact kM rfl (by simp +decide only[go_sem,hst]) (by simp +decide only[go_sem,Ent.row])
   ·intro hlt
    rw[List.take_length]
    (repeat'(first|apply kA|apply kB|((first|refine kc (N:=58) ?_|refine kj (N:=58) kt31 ?_|apply kD|apply kE);simp +decide only[go_sem,hlt])|(apply kG;(simp +decide only[go_sem,hlt];rfl);all_goals(intro hcnd;try exact kz hcnd))|((first|apply kH|apply kI)<;>(intro hcnd;simp +decide only[go_sem,hcnd,hlt]))))
    exact⟨(),kL rfl (by simp +decide only[go_sem]) (by simp[noMem])⟩
  rintro _ _
  have hid:id∈usort (idsOf l fun e=>decide (e.form=o.form)):=((usort_spec _).2 id).2 (mem_ids.2 ⟨o,ho,by simp,hoid⟩)
  have hup:=(usort_spec (idsOf l fun e=>decide (e.form=o.form))).1
  have hlen:(usort (idsOf l fun e=>decide (e.form=o.form))).length≤999999:=by
   have:=usort_lenI (idsOf l fun e=>decide (e.form=o.form));have:=idsOf_len l (fun e=>decide (e.form=o.form));omega
  generalize usort (idsOf l fun e=>decide (e.form=o.form))=xs at hid hup hlen
  (repeat'(first|apply kA|apply kB|((first|refine kc (N:=58) ?_|refine kj (N:=58) kt31 ?_|apply kD|apply kE);simp +decide only[go_sem])|(apply kG;(simp +decide only[go_sem];rfl);all_goals(intro hcnd;try exact kz hcnd))|((first|apply kH|apply kI)<;>(intro hcnd;simp +decide only[go_sem,hcnd]))))
  refine dw_rngI xs (fun k=>kn 58 [(1,dv (li id)),(7,dv (.sl 1 (ints xs))),(40,dv (li xs.length)),(41,dv (li k))] noMem) (fun k=>xs.length<2∨∀y∈xs.take k,(id==y)=false) (by omega) (kL rfl (by simp +decide only[go_sem]) (by simp[noMem])) (.inr (by simp)) ?_ ?_
  ·intro k x hx hk hmm htk hlt hw hi
   cases t1:x==id
   ·(repeat'(first|apply kA|apply kB|((first|refine kc (N:=58) ?_|refine kj (N:=58) kt31 ?_|apply kD|apply kE|apply kF);simp +decide only[go_sem,hlt,hw,hx,t1])|(apply kG;(simp +decide only[go_sem,hlt,hw,hx,t1];rfl);all_goals(intro hcnd;try exact kz hcnd))|((first|apply kH|apply kI)<;>(intro hcnd;simp +decide only[go_sem,hcnd,hlt,hw,hx,t1]))))
    refine⟨hi.imp (fun h=>h) fun h=>forall_snoc htk h (by simp at t1 ⊢;omega),kL rfl (by simp +decide only[go_sem]) (by simp[noMem])⟩
   ·have hxi:x=id:=by simpa using t1
    cases t2:decide ((1:Int)<(xs.length:Int))
    ·have n2:xs.length<2:=by simp at t2;omega
     (repeat'(first|apply kA|apply kB|((first|refine kc (N:=58) ?_|refine kj (N:=58) kt31 ?_|apply kD|apply kE|apply kF);simp +decide only[go_sem,hlt,hw,hx,t1,t2])|(apply kG;(simp +decide only[go_sem,hlt,hw,hx,t1,t2];rfl);all_goals(intro hcnd;try exact kz hcnd))|((first|apply kH|apply kI)<;>(intro hcnd;simp +decide only[go_sem,hcnd,hlt,hw,hx,t1,t2]))))
     exact⟨.inl n2,kL rfl (by simp +decide only[go_sem]) (by simp[noMem])⟩
    ·have n2: ¬xs.length<2:=by simp at t2;omega
     have hidx:idxF (fun y=>id==y) xs=(k:Int):=by
      rw[← hxi]
      exact idx_up k hx fun y hy=>by rw[hxi];exact(hi.resolve_left n2) y hy
     (repeat'(first|apply kA|apply kB|((first|refine kc (N:=58) ?_|refine kj (N:=58) kt31 ?_|apply kD|apply kE|apply kF);simp +decide only[go_sem,hlt,hw,hx,t1,t2])|(apply kG;(simp +decide only[go_sem,hlt,hw,hx,t1,t2];rfl);all_goals(intro hcnd;try exact kz hcnd))|((first|apply kH|apply kI)<;>(intro hcnd;simp +decide only[go_sem,hcnd,hlt,hw,hx,t1,t2]))))
     rw[if_neg n2,hidx];simp
  ·intro hlt hi
   rw[List.take_length]at hi
   have n2:xs.length<2:=hi.resolve_right fun h=>by have:=h id hid;simp at this
   (repeat'(first|apply kA|apply kB|((first|refine kc (N:=58) ?_|refine kj (N:=58) kt31 ?_|apply kD|apply kE|apply kF);simp +decide only[go_sem,hlt])|(apply kG;(simp +decide only[go_sem,hlt];rfl);all_goals(intro hcnd;try exact kz hcnd))|((first|apply kH|apply kI)<;>(intro hcnd;simp +decide only[go_sem,hcnd,hlt]))))
   rw[if_pos n2]
end Go.Proofs.YtehdkccjaeckhaaGreatDoor
namespace Go.Proofs.YtehdkccjaeckhaaGreatDoor
open Go.Lib
theorem dd_cons{u:Nat}:u≠0→decDigits u=(if u / 10=0 then []else decDigits (u / 10))++ [UInt8.ofNat (48+u % 10)]:=by
 intro h0
 by_cases h:u<10
 ·rw[dd_small h,if_pos (by omega),Nat.mod_eq_of_lt h];rfl
 ·rw[dd_big h,if_neg (by omega)]
theorem itoa_neg{n:Int}(h:n<0):itoa n=45::decDigits n.natAbs:=by rw[itoa,if_pos h]
end Go.Proofs.YtehdkccjaeckhaaGreatDoor
namespace Go.Proofs.YtehdkccjaeckhaaGreatDoor
open Go.Dl
attribute [local irreducible] DW DCalls ECalls wk IW
theorem rTextP_D(g:List Phon)(w:List Int)(hg: ∀p∈g,p.name.size≤1048576)(hgl:g.length≤1048576)(hw:w.length≤1048576):DCalls Tryz.prog 40 [.agg (invRow g),dv (.sl 1 (ints w))] (dv (ls (textP g w))):=by
 have hmax:maxLen=9223372036854775807:=rfl
 refine kd (N:=32) (rs:= [.tmp 4]) Tryz.func40 ?_
 (repeat(first|apply kA|apply kB|((first|refine kc (N:=32) ?_|refine kj (N:=32) kt43 ?_|apply kD|apply kE);simp +decide only[go_sem])))
 refine dw_rng0 w (fun k=>kn 32 [(1,dv (.sl 1 (ints w))),(2,.one (.bx 2 1 0 0)),(5,dv (ls (textP g (w.take k)))),(8,dv (li w.length)),(9,dv (li k))] (ml [(2,[invRow g])])) (by omega) (kM rfl (by simp +decide only[go_sem,List.take_zero,textP,List.foldl_nil,invRow,List.length_cons,List.length_nil,empty_mk]) (by simp +decide only[go_sem,invRow])) ?_ ?_
 ·intro k n he hk hmm htk hlt hwr
  have fa:=ints_at2 he
  have hs:=rIs_D g n
  have hst:textP g (w.take (k+1))=if segOk g n=true then textP g (w.take k)++nameAt g n else textP g (w.take k):=by rw[htk];exact textP_snoc g _ n
  have hle:=textP_le hg w k
  cases t1:segOk g n
  ·rw[t1]at hs hst
   rw[if_neg (by decide)]at hst
   (repeat'(first|apply kA|apply kB|((first|refine kc (N:=32) ?_|refine kj (N:=32) kt43 ?_|apply kD|apply kE|refine kx hs ?_|apply kF);simp +decide only[go_sem,hlt,hwr,fa,invRow])|(apply kG;(simp +decide only[go_sem,hlt,hwr,fa,invRow];rfl);all_goals(intro hcnd;try exact kz hcnd))))
   exact kM rfl (by simp +decide only[go_sem,hst]) (by simp +decide only[go_sem,invRow])
  ·rw[t1]at hs hst
   rw[if_pos rfl]at hst
   obtain⟨j,p,rfl,e1,e2⟩:=seg_name t1
   have hn:=nameAt_size hg ((j:Int)+1)
   have hj:=(List.getElem?_eq_some_iff.1 e1).1
   rw[e2]at hst hn
   have u1:IntKind.i64.wrap ((j:Int)+1 - 1)=(j:Int):=by rw[wrap_i64 (by omega) (by omega)];omega
   have u2:((textP g (w.take k)).size+p.name.size≤maxLen)=True:=by
    simp only[eq_iff_iff,iff_true]
    have:k*1048576≤1048576*1048576:=Nat.mul_le_mul_right _ (by omega)
    omega
   (repeat'(first|apply kA|apply kB|((first|refine kc (N:=32) ?_|refine kj (N:=32) kt43 ?_|apply kD|apply kE|refine kx hs ?_|apply kF);simp +decide only[go_sem,hlt,hwr,fa,invRow,u1,e1,u2,Phon.enc])|(apply kG;(simp +decide only[go_sem,hlt,hwr,fa,invRow,u1,e1,u2,Phon.enc];rfl);all_goals(intro hcnd;try exact kz hcnd))))
   exact kM rfl (by simp +decide only[go_sem,hst]) (by simp +decide only[go_sem,invRow])
 ·intro hlt
  rw[List.take_length]
  (repeat'(first|apply kA|apply kB|((first|refine kc (N:=32) ?_|refine kj (N:=32) kt43 ?_|apply kD|apply kE|apply kF);simp +decide only[go_sem,hlt])|(apply kG;(simp +decide only[go_sem,hlt];rfl);all_goals(intro hcnd;try exact kz hcnd))))
theorem starts_iff(w:List Int)(u:Unt):startsU w u=decide (u.segs <+: w):=rfl
theorem rStarts_D(w:List Int)(p:Nat)(u:Unt)(hp:p≤w.length)(hw:w.length≤1048576)(hu:u.segs.length≤1048576):DCalls Tryz.prog 74 [dv (.sl 1 (ints w)),dv (li p),.agg u.row] (dv (lb (startsU (w.drop p) u))):=by
 have hmax:maxLen=9223372036854775807:=rfl
 have u0:IntKind.i64.wrap ((w.length:Int) - (p:Int))=((w.length - p:Nat):Int):=by rw[wrap_i64 (by omega) (by omega)];omega
 rw[starts_iff]
 by_cases h0:w.length - p<u.segs.length
 ·have t1:decide (((w.length - p:Nat):Int)<(u.segs.length:Int))=true:=by simp;omega
  have e:decide (u.segs <+: w.drop p)=false:=by
   rw[decide_eq_false_iff_not]
   intro h
   have:=h.length_le
   rw[List.length_drop]at this
   omega
  rw[e]
  refine kd (N:=35) (rs:= [.tmp 6]) Tryz.func74 ?_
  (repeat'(first|apply kA|apply kB|((first|refine kc (N:=35) ?_|refine kj (N:=35) kt33 ?_|apply kD|apply kE|apply kF);simp +decide only[go_sem,Unt.row,u0,t1])|(apply kG;(simp +decide only[go_sem,Unt.row,u0,t1];rfl);all_goals(intro hcnd;try exact kz hcnd))))
 ·have t1:decide (((w.length - p:Nat):Int)<(u.segs.length:Int))=false:=by simp;omega
  refine kd (N:=35) (rs:= [.tmp 6]) Tryz.func74 ?_
  (repeat'(first|apply kA|apply kB|((first|refine kc (N:=35) ?_|refine kj (N:=35) kt33 ?_|apply kD|apply kE);simp +decide only[go_sem,Unt.row,u0,t1])|(apply kG;(simp +decide only[go_sem,Unt.row,u0,t1];rfl);all_goals(intro hcnd;try exact kz hcnd))))
  refine dw_rngI u.segs (fun k=>kn 35 [(0,dv (.sl 1 (ints w))),(1,dv (li p)),(5,.one (.bx 5 2 0 0)),(7,dv (li k))] (ml [(5,[u.row])])) (fun k=>u.segs.take k=(w.drop p).take k) (by omega) (kM rfl (by simp +decide only[go_sem,Unt.row,List.length_cons,List.length_nil]) (by simp +decide only[go_sem,Unt.row])) (by simp) ?_ ?_
  ·intro k x he hk hmm htk hlt hwr hi
   have hpk:p+k<w.length:=by omega
   have ew:w[p+k]? =some w[p+k]:=List.getElem?_eq_getElem hpk
   generalize w[p+k]=y at ew
   have fa:=ints_at2 he
   have fb:=ints_at2 ew
   have u1:IntKind.i64.wrap ((p:Int)+(k:Int))=((p+k:Nat):Int):=by rw[wrap_i64 (by omega) (by omega)];omega
   have ed:(w.drop p)[k]? =some y:=by rw[List.getElem?_drop];exact ew
   have htd:(w.drop p).take (k+1)=(w.drop p).take k++ [y]:=by rw[List.take_add_one,ed];rfl
   rcases Bool.eq_false_or_eq_true (y !=x)with t2|t2
   ·have e:decide (u.segs <+: w.drop p)=false:=by
     rw[decide_eq_false_iff_not]
     rintro⟨r,hr⟩
     rw[← hr,List.getElem?_append_left hk,he]at ed
     injection ed with ed
     rw[ed]at t2
     simp at t2
    rw[e]
    (repeat'(first|apply kA|apply kB|((first|refine kc (N:=35) ?_|refine kj (N:=35) kt33 ?_|apply kD|apply kE|apply kF);simp +decide only[go_sem,hlt,hwr,fa,fb,u1,t2,Unt.row])|(apply kG;(simp +decide only[go_sem,hlt,hwr,fa,fb,u1,t2,Unt.row];rfl);all_goals(intro hcnd;try exact kz hcnd))))
   ·have hxy:y=x:=by simpa using t2
    (repeat'(first|apply kA|apply kB|((first|refine kc (N:=35) ?_|refine kj (N:=35) kt33 ?_|apply kD|apply kE|apply kF);simp +decide only[go_sem,hlt,hwr,fa,fb,u1,t2,Unt.row])|(apply kG;(simp +decide only[go_sem,hlt,hwr,fa,fb,u1,t2,Unt.row];rfl);all_goals(intro hcnd;try exact kz hcnd))))
    exact⟨by rw[htk,htd,hi,hxy],kM rfl (by simp +decide only[go_sem,hwr]) (by simp +decide only[go_sem,Unt.row])⟩
  ·intro hlt hi
   rw[List.take_length]at hi
   have e:decide (u.segs <+: w.drop p)=true:=by
    rw[decide_eq_true_iff,hi]
    exact List.take_prefix _ _
   rw[e]
   (repeat'(first|apply kA|apply kB|((first|refine kc (N:=35) ?_|refine kj (N:=35) kt33 ?_|apply kD|apply kE|apply kF);simp +decide only[go_sem,hlt,Unt.row])|(apply kG;(simp +decide only[go_sem,hlt,Unt.row];rfl);all_goals(intro hcnd;try exact kz hcnd))))
theorem rSpell_D(nm:ByteArray)(us:List Unt)(lt:List (List ByteArray))(w:List Int)(ho:OkU us)(hl:us.length≤1000000)(hg: ∀u∈us,u.graph.size≤1048576)(hsg: ∀u∈us,u.segs.length≤1048576):
  DCalls Tryz.prog 39 [.agg (ortRow nm us lt),dv (.sl 1 (ints w))] (.tup [dv (ls (spellE us w).1),dv (li (spellE us w).2.1),dv (li (spellE us w).2.2)]):=by
 have hmax:maxLen=9223372036854775807:=rfl
 unfold spellE
 by_cases w0:w.length=0
 ·have t1:((w.length:Int)==0)=true:=by rw[beq_iff_eq];omega
  rw[if_pos w0]
  refine kd (N:=79) (rs:= [.tmp 4,.tmp 5,.tmp 6]) Tryz.func39 ?_
  (repeat'(first|apply kA|apply kB|((first|refine kc (N:=79) ?_|refine kj (N:=79) kt44 ?_|apply kD|apply kE|apply kF);simp +decide only[go_sem,t1])|(apply kG;(simp +decide only[go_sem,t1];rfl);all_goals(intro hcnd;try exact kz hcnd))|((first|apply kH|apply kI)<;>(intro hcnd;simp +decide only[go_sem,hcnd,t1]))))
  rfl
 rw[if_neg w0]
 have t1:((w.length:Int)==0)=false:=by rw[beq_eq_false_iff_ne];omega
 by_cases w1:24<w.length
 ·have t2:decide ((24:Int)<(w.length:Int))=true:=by simp;omega
  rw[if_pos w1]
  refine kd (N:=79) (rs:= [.tmp 4,.tmp 5,.tmp 6]) Tryz.func39 ?_
  (repeat'(first|apply kA|apply kB|((first|refine kc (N:=79) ?_|refine kj (N:=79) kt44 ?_|apply kD|apply kE|apply kF);simp +decide only[go_sem,t1,t2])|(apply kG;(simp +decide only[go_sem,t1,t2];rfl);all_goals(intro hcnd;try exact kz hcnd))|((first|apply kH|apply kI)<;>(intro hcnd;simp +decide only[go_sem,hcnd,t1,t2]))))
  rfl
 rw[if_neg w1]
 have t2:decide ((24:Int)<(w.length:Int))=false:=by simp;omega
 refine kd (N:=79) (rs:= [.tmp 4,.tmp 5,.tmp 6]) Tryz.func39 ?_
 (repeat'(first|apply kA|apply kB|((first|refine kc (N:=79) ?_|refine kj (N:=79) kt44 ?_|apply kD|apply kE);simp +decide only[go_sem,t1,t2])|(apply kG;(simp +decide only[go_sem,t1,t2];rfl);all_goals(intro hcnd;try exact kz hcnd))|((first|apply kH|apply kI)<;>(intro hcnd;simp +decide only[go_sem,hcnd,t1,t2]))))
 refine dw_loop_fam (fun y:Nat×ByteArray=>kn 79 [(1,dv (.sl 1 (ints w))),(2,.one (.bx 2 3 0 0)),(7,dv (ls y.2)),(8,dv (li y.1))] (ml [(2,[ortRow nm us lt])]))
  (fun y=>y.1≤w.length∧y.2.size≤y.1*1048576∧spellF us w w.length 0 ByteArray.empty=spellF us w (w.length - y.1) y.1 y.2) (fun y=>w.length - y.1) (0,ByteArray.empty) (kM rfl (by simp +decide only[go_sem,ortRow,List.length_cons,List.length_nil,empty_mk]) (by simp +decide only[go_sem,ortRow])) ⟨by simp,by simp,rfl⟩ ?_
 rintro⟨p,s⟩ ⟨h1,h2,h3⟩
 simp only at h1 h2 h3 ⊢
 rw[h3]
 by_cases ha:p<w.length
 ·have t3:decide ((p:Int)<(w.length:Int))=true:=by simp;omega
  obtain⟨m,hm⟩: ∃m,w.length - p=m+1:=⟨w.length - p - 1,by omega⟩
  (repeat'(first|apply kA|apply kB|((first|refine kc (N:=79) ?_|refine kj (N:=79) kt44 ?_|apply kD|apply kE);simp +decide only[go_sem,t3,ortRow])|(apply kG;(simp +decide only[go_sem,t3,ortRow];rfl);all_goals(intro hcnd;try exact kz hcnd))|((first|apply kH|apply kI)<;>(intro hcnd;simp +decide only[go_sem,hcnd,t3,ortRow]))))
  refine dw_rng0 us (fun i=>kn 79 [(1,dv (.sl 1 (ints w))),(2,.one (.bx 2 3 0 0)),(7,dv (ls s)),(8,dv (li p)),(9,dv (li (bestU us (w.drop p) i))),(10,dv (li i))] (ml [(2,[ortRow nm us lt])])) (by omega) (kM rfl (by simp +decide only[go_sem,bestU,ortRow]) (by simp +decide only[go_sem,ortRow])) ?_ ?_
  ·intro i u he hk hmm htk hlt hw
   have hS:=rStarts_D w p u h1 (by omega) (hsg u hmm)
   have hb:=bestU_succ (w:=w.drop p) he
   have hr:=bestU_rng us (w.drop p) i (by omega)
   generalize bestU us (w.drop p) i=b at hb hr ⊢
   cases t4:startsU (w.drop p) u
   ·rw[t4]at hS hb
    rw[if_neg (by simp)]at hb
    (repeat'(first|apply kA|apply kB|((first|refine kc (N:=79) ?_|refine kj (N:=79) kt44 ?_|apply kD|apply kE|refine kx hS ?_|apply kF);simp +decide only[go_sem,hlt,hw,he,ortRow,Unt.enc,Unt.row])|(apply kG;(simp +decide only[go_sem,hlt,hw,he,ortRow,Unt.enc,Unt.row];rfl);all_goals(intro hcnd;try exact kz hcnd))|((first|apply kH|apply kI)<;>(intro hcnd;simp +decide only[go_sem,hcnd,hlt,hw,he,ortRow,Unt.enc,Unt.row]))))
    exact kM rfl (by simp +decide only[go_sem,hb]) (by simp +decide only[go_sem,ortRow])
   ·rw[t4]at hS hb
    by_cases t5:b<0
    ·have t6:(b<0)=True:=by simpa using t5
     rw[if_pos (by simp[t5])]at hb
     (repeat'(first|apply kA|apply kB|((first|refine kc (N:=79) ?_|refine kj (N:=79) kt44 ?_|apply kD|apply kE|refine kx hS ?_|apply kF);simp +decide only[go_sem,hlt,hw,he,ortRow,Unt.enc,Unt.row,t6])|(apply kG;(simp +decide only[go_sem,hlt,hw,he,ortRow,Unt.enc,Unt.row,t6];rfl);all_goals(intro hcnd;try exact kz hcnd))|((first|apply kH|apply kI)<;>(intro hcnd;simp +decide only[go_sem,hcnd,hlt,hw,he,ortRow,Unt.enc,Unt.row,t6]))))
     exact kM rfl (by simp +decide only[go_sem,hb]) (by simp +decide only[go_sem,ortRow])
    ·have t6:(b<0)=False:=by simpa using t5
     obtain⟨j,rfl⟩: ∃j:Nat,b=j:=⟨b.toNat,by omega⟩
     have hj:j<us.length:=by omega
     have ej:us[j]? =some us[j]:=List.getElem?_eq_getElem hj
     generalize us[j]=v at ej
     have ev:unitAt us (j:Int)=v:=by unfold unitAt;simp[ej]
     rw[ev]at hb
     by_cases t7:v.segs.length<u.segs.length
     ·have t8:((v.segs.length:Int)<(u.segs.length:Int))=True:=by simp;omega
      rw[if_pos (by simp[t7])]at hb
      (repeat'(first|apply kA|apply kB|((first|refine kc (N:=79) ?_|refine kj (N:=79) kt44 ?_|apply kD|apply kE|refine kx hS ?_|apply kF);simp +decide only[go_sem,hlt,hw,he,ej,ortRow,Unt.enc,Unt.row,t6,t8])|(apply kG;(simp +decide only[go_sem,hlt,hw,he,ej,ortRow,Unt.enc,Unt.row,t6,t8];rfl);all_goals(intro hcnd;try exact kz hcnd))|((first|apply kH|apply kI)<;>(intro hcnd;simp +decide only[go_sem,hcnd,hlt,hw,he,ej,ortRow,Unt.enc,Unt.row,t6,t8]))))
      exact kM rfl (by simp +decide only[go_sem,hb]) (by simp +decide only[go_sem,ortRow])
     ·have t8:((v.segs.length:Int)<(u.segs.length:Int))=False:=by simp;omega
      rw[if_neg (by simp[t7])]at hb
      (repeat'(first|apply kA|apply kB|((first|refine kc (N:=79) ?_|refine kj (N:=79) kt44 ?_|apply kD|apply kE|refine kx hS ?_|apply kF);simp +decide only[go_sem,hlt,hw,he,ej,ortRow,Unt.enc,Unt.row,t6,t8])|(apply kG;(simp +decide only[go_sem,hlt,hw,he,ej,ortRow,Unt.enc,Unt.row,t6,t8];rfl);all_goals(intro hcnd;try exact kz hcnd))|((first|apply kH|apply kI)<;>(intro hcnd;simp +decide only[go_sem,hcnd,hlt,hw,he,ej,ortRow,Unt.enc,Unt.row,t6,t8]))))
      exact kM rfl (by simp +decide only[go_sem,hb]) (by simp +decide only[go_sem,ortRow])
  ·intro hlt
   rw[hm,spellF,if_neg (by omega)]
   by_cases hb:bestU us (w.drop p) us.length<0
   ·have t6:(bestU us (w.drop p) us.length<0)=True:=by simpa using hb
    rw[if_pos hb]
    (repeat'(first|apply kA|apply kB|((first|refine kc (N:=79) ?_|refine kj (N:=79) kt44 ?_|apply kD|apply kE|apply kF);simp +decide only[go_sem,hlt,t6,ortRow])|(apply kG;(simp +decide only[go_sem,hlt,t6,ortRow];rfl);all_goals(intro hcnd;try exact kz hcnd))|((first|apply kH|apply kI)<;>(intro hcnd;simp +decide only[go_sem,hcnd,hlt,t6,ortRow]))))
    rfl
   ·have t6:(bestU us (w.drop p) us.length<0)=False:=by simpa using hb
    rw[if_neg hb]
    obtain⟨u,e1,e2,e3,e4⟩:=unit_some hb
    rw[e2]
    have hz:u.segs.length≠0:=by simpa using ho.segs u e3
    have hle:u.segs.length≤w.length - p:=by have:=e4.length_le;rwa [List.length_drop]at this
    have hgs:=hg u e3
    obtain⟨j,hj⟩: ∃j:Nat,bestU us (w.drop p) us.length=j:=⟨(bestU us (w.drop p) us.length).toNat,by omega⟩
    rw[hj]at e1 t6
    have e1':us[j]? =some u:=by simpa using e1
    have u1:IntKind.i64.wrap ((p:Int)+(u.segs.length:Int))=((p+u.segs.length:Nat):Int):=by rw[wrap_i64 (by omega) (by omega)];omega
    have u2:(s.size+u.graph.size≤maxLen)=True:=by
     simp only[eq_iff_iff,iff_true]
     have:p*1048576≤24*1048576:=Nat.mul_le_mul_right _ (by omega)
     omega
    (repeat'(first|apply kA|apply kB|((first|refine kc (N:=79) ?_|refine kj (N:=79) kt44 ?_|apply kD|apply kE);simp +decide only[go_sem,hlt,hj,t6,e1',ortRow,Unt.enc,u1,u2])|(apply kG;(simp +decide only[go_sem,hlt,hj,t6,e1',ortRow,Unt.enc,u1,u2];rfl);all_goals(intro hcnd;try exact kz hcnd))|((first|apply kH|apply kI)<;>(intro hcnd;simp +decide only[go_sem,hcnd,hlt,hj,t6,e1',ortRow,Unt.enc,u1,u2]))))
    refine⟨(p+u.segs.length,s++u.graph),⟨by simp only;omega,?_,?_⟩,by simp only;omega,kM rfl (by simp +decide only[go_sem,u1]) (by simp +decide only[go_sem,ortRow])⟩
    ·simp only[ByteArray.size_append]
     have:(p+1)*1048576≤(p+u.segs.length)*1048576:=Nat.mul_le_mul_right _ (by omega)
     rw[Nat.succ_mul]at this
     omega
    ·exact spellF_fuel ho w _ _ _ _ (by omega) (by omega)
 ·have t3:decide ((p:Int)<(w.length:Int))=false:=by simp;omega
  have:w.length - p=0:=by omega
  rw[this,spellF]
  (repeat'(first|apply kA|apply kB|((first|refine kc (N:=79) ?_|refine kj (N:=79) kt44 ?_|apply kD|apply kE|apply kF);simp +decide only[go_sem,t3])|(apply kG;(simp +decide only[go_sem,t3];rfl);all_goals(intro hcnd;try exact kz hcnd))|((first|apply kH|apply kI)<;>(intro hcnd;simp +decide only[go_sem,hcnd,t3]))))
end Go.Proofs.YtehdkccjaeckhaaGreatDoor
namespace Go.Proofs.YtehdkccjaeckhaaGreatDoor
open Go.Dl Go.RowKit Go.Lib
attribute [local irreducible] DW DCalls ECalls wk IW
theorem app_bytes(a b:List UInt8):(⟨a.toArray⟩:ByteArray)++⟨b.toArray⟩=⟨(a++b).toArray⟩:=by
 apply ByteArray.ext
 simp
theorem one_byte(c:UInt8)(a:List UInt8):(⟨#[c]⟩:ByteArray)++⟨a.toArray⟩=⟨(c::a).toArray⟩:=app_bytes [c] a
theorem natAbs_tdiv(k:Int):(k.tdiv 10).natAbs=k.natAbs / 10:=by rw[Int.natAbs_tdiv];rfl
theorem rTextN_D(n:Int)(h0: -9223372036854775808≤n)(h1:n≤9223372036854775807):DCalls Tryz.prog 45 [dv (li n)] (dv (ls (numB n))):=by
 have hmax:maxLen=9223372036854775807:=rfl
 refine kd (N:=31) (rs:= [.tmp 2]) Tryz.func45 ?_
 cases t0:n==0
 rotate_left
 ·have:n=0:=by simpa using t0
  subst this
  (repeat'(first|apply kA|apply kB|((first|refine kc (N:=31) ?_|apply kD|apply kE|apply kF);simp +decide only[go_sem])|(apply kG;(simp +decide only[go_sem];rfl);all_goals(intro hcnd;try exact kz hcnd))))
  rw[show numB 0=⟨#[48]⟩ by rw[numB,itoa_pos (by decide),dd_small (by decide)];rfl]
 have hn:n≠0:=by simpa using t0
 (repeat'(first|apply kA|apply kB|((first|refine kc (N:=31) ?_|apply kD|apply kE);simp +decide only[go_sem,t0])|(apply kG;(simp +decide only[go_sem,t0];rfl);all_goals(intro hcnd;try exact kz hcnd))))
 refine dw_loop_fam (fun p:Int×List UInt8=>kn 31 [(0,dv (li n)),(3,dv (ls ⟨p.2.toArray⟩)),(4,dv (li p.1))] noMem) (fun p=>(-9223372036854775808≤p.1∧p.1≤9223372036854775807)∧(if p.1=0 then p.2=decDigits n.natAbs else decDigits p.1.natAbs++p.2=decDigits n.natAbs)) (fun p=>p.1.natAbs) (n,[]) (kL rfl (by simp +decide only[go_sem]) (by simp[noMem])) ⟨⟨h0,h1⟩,by rw[if_neg hn,List.append_nil]⟩ ?_
 rintro⟨k,acc⟩ ⟨⟨hk0,hk1⟩,hacc⟩
 simp only at hk0 hk1 hacc
 have hal:acc.length≤4000000000000000000:=by
  have h2:=dd_len n.natAbs
  have h3:acc.length≤(decDigits n.natAbs).length:=by
   split at hacc
   ·rw[hacc];exact Nat.le_refl _
   ·rw[← hacc];simp
  omega
 have r1: ∀c:UInt8,(#[c].size+acc.toArray.size≤maxLen)=True:=fun c=>eq_true (by simp;omega)
 cases t1:k !=0
 ·have hk:k=0:=by simpa using t1
  rw[if_pos hk]at hacc
  cases t2:decide (n<0)
  ·(repeat'(first|apply kA|apply kB|((first|refine kc (N:=31) ?_|apply kD|apply kE|apply kF);simp +decide only[go_sem,t1,t2])|(apply kG;(simp +decide only[go_sem,t1,t2];rfl);all_goals(intro hcnd;try exact kz hcnd))))
   rw[numB,itoa_pos (by simpa using t2),hacc]
  ·(repeat'(first|apply kA|apply kB|((first|refine kc (N:=31) ?_|apply kD|apply kE|apply kF);simp +decide only[go_sem,t1,t2,r1,one_byte])|(apply kG;(simp +decide only[go_sem,t1,t2,r1,one_byte];rfl);all_goals(intro hcnd;try exact kz hcnd))))
   rw[numB,itoa_neg (by simpa using t2),← hacc]
 ·have hk:k≠0:=by simpa using t1
  rw[if_neg hk,dd_cons (by omega)]at hacc
  have hq:=natAbs_tdiv k
  have hw:IntKind.i64.wrap (k.tdiv 10)=k.tdiv 10:=wrap_i64 (by omega) (by omega)
  have hstep:(if k.tdiv 10=0 then UInt8.ofNat (48+k.natAbs % 10)::acc=decDigits n.natAbs else decDigits (k.tdiv 10).natAbs++(UInt8.ofNat (48+k.natAbs % 10)::acc)=decDigits n.natAbs):=by
   split
   ·rename_i h;rw[if_pos (by omega)]at hacc;simpa using hacc
   ·rename_i h;rw[if_neg (by omega)]at hacc;rw[hq];simpa using hacc
  have hd:(k.tmod 10).natAbs=k.natAbs % 10:=by rw[Int.natAbs_tmod];rfl
  have h8:IntKind.u8.wrap (48+((k.natAbs % 10:Nat):Int))=((48+k.natAbs % 10:Nat):Int):=by
   show(48+((k.natAbs % 10:Nat):Int)) % 256=_
   omega
  have hw48:IntKind.i64.wrap (48+((k.natAbs % 10:Nat):Int))=48+((k.natAbs % 10:Nat):Int):=wrap_i64 (by omega) (by omega)
  cases t2:decide (k.tmod 10<0)
  ·have e1:k.tmod 10=((k.natAbs % 10:Nat):Int):=by simp at t2;omega
   have hz:decide (((k.natAbs % 10:Nat):Int)<0)=false:=by simp;omega
   (repeat'(first|apply kA|apply kB|((first|refine kc (N:=31) ?_|apply kD|apply kE);simp +decide only[go_sem,t1,hz,e1,hw,hw48,h8,r1,one_byte,Int.toNat_natCast])|(apply kG;(simp +decide only[go_sem,t1,hz,e1,hw,hw48,h8,r1,one_byte,Int.toNat_natCast];rfl);all_goals(intro hcnd;try exact kz hcnd))))
   exact⟨(k.tdiv 10,UInt8.ofNat (48+k.natAbs % 10)::acc),⟨⟨by simp only;omega,by simp only;omega⟩,hstep⟩,by simp only;omega,kL rfl (by simp +decide only[go_sem]) (by simp[noMem])⟩
  ·have e1:IntKind.i64.wrap (0 - k.tmod 10)=((k.natAbs % 10:Nat):Int):=by simp at t2;rw[wrap_i64 (by omega) (by omega)];omega
   (repeat'(first|apply kA|apply kB|((first|refine kc (N:=31) ?_|apply kD|apply kE);simp +decide only[go_sem,t1,t2,e1,hw,hw48,h8,r1,one_byte,Int.toNat_natCast])|(apply kG;(simp +decide only[go_sem,t1,t2,e1,hw,hw48,h8,r1,one_byte,Int.toNat_natCast];rfl);all_goals(intro hcnd;try exact kz hcnd))))
   exact⟨(k.tdiv 10,UInt8.ofNat (48+k.natAbs % 10)::acc),⟨⟨by simp only;omega,by simp only;omega⟩,hstep⟩,by simp only;omega,kL rfl (by simp +decide only[go_sem]) (by simp[noMem])⟩
end Go.Proofs.YtehdkccjaeckhaaGreatDoor
namespace Go.Proofs.YtehdkccjaeckhaaGreatDoor
open Go.Dl
open S (usort)
attribute [local irreducible] DW DCalls ECalls wk IW
theorem wayF_len(l:List Ent): ∀(n:Nat) (id:Int),(wayF l n id).length≤n
 | 0,_=>by simp[wayF]
 | n+1,id=>by
  simp only[wayF]
  split
  ·simp
  ·simp only[List.length_cons]
   split
   ·simp
   ·have:=wayF_len l n (getE l id).1.main;omega
theorem rMain_D(l:List Ent)(id:Int)(hl:l.length≤999999):DCalls Tryz.prog 90 [dv (.sl 8 (l.map Ent.enc)),dv (li id)] (dv (li (mainE l id))):=by
 have hmax:maxLen=9223372036854775807:=rfl
 have hW:=rWay_D l id hl
 have hlen:=wayF_len l (l.length+1) id
 have hm:mainE l id=((wayI l id).getLast?).getD 0:=by unfold mainE wayI;rw[List.getLast?_map]
 have hlw:(wayI l id).length≤l.length+1:=by unfold wayI wayE;simpa using hlen
 rw[hm]
 generalize wayI l id=v at hW hlw
 by_cases h0:v.length=0
 ·have t1:((v.length:Int)==0)=true:=by rw[beq_iff_eq];omega
  have:v= []:=by simpa using h0
  refine kd (N:=18) (rs:= [.tmp 4]) Tryz.func90 ?_
  (repeat'(first|apply kA|apply kB|((first|refine kc (N:=18) ?_|apply kD|apply kE|refine kx hW ?_|apply kF);simp +decide only[go_sem,t1])|(apply kG;(simp +decide only[go_sem,t1];rfl);all_goals(intro hcnd;try exact kz hcnd))))
  simp[this]
 ·have t1:((v.length:Int)==0)=false:=by rw[beq_eq_false_iff_ne];omega
  have w1:IntKind.i64.wrap ((v.length:Int) - 1)=((v.length - 1:Nat):Int):=by rw[wrap_i64 (by omega) (by omega)];omega
  have e1:v[v.length - 1]? =some (v[v.length - 1]'(by omega)):=List.getElem?_eq_getElem (by omega)
  have e2:=ints_at2 e1
  refine kd (N:=18) (rs:= [.tmp 4]) Tryz.func90 ?_
  (repeat'(first|apply kA|apply kB|((first|refine kc (N:=18) ?_|apply kD|apply kE|refine kx hW ?_|apply kF);simp +decide only[go_sem,t1,w1,e2])|(apply kG;(simp +decide only[go_sem,t1,w1,e2];rfl);all_goals(intro hcnd;try exact kz hcnd))))
  rw[List.getLast?_eq_getElem?,e1]
  rfl
theorem rAll_D(l:List Ent)(id:Int)(hl:l.length≤999999):DCalls Tryz.prog 55 [dv (.sl 8 (l.map Ent.enc)),dv (li id)] (dv (.sl 1 (ints (allE l id)))):=by
 have hmax:maxLen=9223372036854775807:=rfl
 refine kd (N:=41) (rs:= [.tmp 4]) Tryz.func55 ?_
 (repeat'(first|apply kA|apply kB|((first|refine kc (N:=41) ?_|apply kD|apply kE);simp +decide only[go_sem])|(apply kG;(simp +decide only[go_sem];rfl);all_goals(intro hcnd;try exact kz hcnd))|((first|apply kH|apply kI)<;>(intro hcnd;simp +decide only[go_sem,hcnd]))))
 refine dw_ownX (xs:= []) 5 5 1 (by simp +decide only[go_sem]) ?_
 refine dw_rng0 l (fun k=>kn 41 [(0,dv (.sl 8 (l.map Ent.enc))),(1,dv (li id)),(5,.one (.own 5 1 (ints (idsOf (l.take k) (varP l id))))),(6,dv (li k))] noMem) (by omega) (kL rfl (by simp +decide only[go_sem,List.take_zero,idsOf_nil,List.map_nil]) (by simp[noMem])) ?_ ?_
 ·intro k e he hk hm htk hlt hw
  have hM:=rMain_D l e.id hl
  have hi:=idsOf_len (l.take k) (varP l id)
  have r1:(((idsOf (l.take k) (varP l id)).length+1)*8≤140737488355328)=True:=eq_true (by rw[List.length_take]at hi;omega)
  have hst:idsOf (l.take (k+1)) (varP l id)=idsOf (l.take k) (varP l id)++if varP l id e=true then [e.id]else []:=by rw[htk,idsOf_snoc]
  unfold varP at hst
  cases t1:e.id==id
  ·have t1':(e.id !=id)=true:=by simp[bne,t1]
   cases t2:mainE l e.id==id
   ·rw[t1,t2,if_neg (by decide),List.append_nil]at hst
    (repeat'(first|apply kA|apply kB|((first|refine kc (N:=41) ?_|apply kD|apply kE|refine kx hM ?_|apply kF);simp +decide only[go_sem,hlt,hw,he,t1',t2,r1,Ent.enc])|(apply kG;(simp +decide only[go_sem,hlt,hw,he,t1',t2,r1,Ent.enc];rfl);all_goals(intro hcnd;try exact kz hcnd))|((first|apply kH|apply kI)<;>(intro hcnd;simp +decide only[go_sem,hcnd,hlt,hw,he,t1',t2,r1,Ent.enc]))))
    exact kL rfl (by simp +decide only[go_sem,hst]) (by simp[noMem])
   ·rw[t1,t2,if_pos (by decide)]at hst
    have hst2:ints (idsOf (l.take (k+1)) (varP l id))=ints (idsOf (l.take k) (varP l id))++ [[li e.id]]:=by unfold varP;rw[hst];simp
    (repeat'(first|apply kA|apply kB|((first|refine kc (N:=41) ?_|apply kD|apply kE|refine kx hM ?_|apply kF);simp +decide only[go_sem,hlt,hw,he,t1',t2,r1,Ent.enc])|(apply kG;(simp +decide only[go_sem,hlt,hw,he,t1',t2,r1,Ent.enc];rfl);all_goals(intro hcnd;try exact kz hcnd))|((first|apply kH|apply kI)<;>(intro hcnd;simp +decide only[go_sem,hcnd,hlt,hw,he,t1',t2,r1,Ent.enc]))))
    exact kL rfl (by simp +decide only[go_sem,hst2]) (by simp[noMem])
  ·have t1':(e.id !=id)=false:=by simp[bne,t1]
   rw[t1,if_neg (by simp),List.append_nil]at hst
   (repeat'(first|apply kA|apply kB|((first|refine kc (N:=41) ?_|apply kD|apply kE|apply kF);simp +decide only[go_sem,hlt,hw,he,t1',r1,Ent.enc])|(apply kG;(simp +decide only[go_sem,hlt,hw,he,t1',r1,Ent.enc];rfl);all_goals(intro hcnd;try exact kz hcnd))|((first|apply kH|apply kI)<;>(intro hcnd;simp +decide only[go_sem,hcnd,hlt,hw,he,t1',r1,Ent.enc]))))
   exact kL rfl (by simp +decide only[go_sem,hst]) (by simp[noMem])
 ·intro hlt
  rw[List.take_length]
  (repeat'(first|apply kA|apply kB|((first|refine kc (N:=41) ?_|apply kD|apply kE);simp +decide only[go_sem,hlt])|(apply kG;(simp +decide only[go_sem,hlt];rfl);all_goals(intro hcnd;try exact kz hcnd))|((first|apply kH|apply kI)<;>(intro hcnd;simp +decide only[go_sem,hcnd,hlt]))))
  refine dw_slot 4 _ (DLe.own_ _ _ _) ?_
  apply kF;simp +decide only[go_sem]
  rfl
theorem rSpelled_D(x:LX){d:Dic}(hd:OkD d)(w:List Int)(hw:w.length≤1000):DCalls Tryz.prog 15 [.agg (lngRow x d),dv (.sl 1 (ints w))] (dv (ls (d.sp w))):=by
 have hmax:maxLen=9223372036854775807:=rfl
 have hS:=rSpell_D x.nm d.units d.letters w hd.units (by have:=hd.ulen;omega) (fun u hu=>by have:=hd.gsz u hu;omega) (fun u hu=>by have:=hd.usg u hu;omega)
 have hT:=rTextP_D d.inv w (fun p hp=>by have:=hd.nsz p hp;omega) hd.ilen (by omega)
 unfold Dic.sp spelledE
 simp only[ortRow]at hS
 simp only[invRow]at hT
 generalize spellE d.units w=r at hS ⊢
 obtain⟨a,b,c⟩:=r
 simp only at hS ⊢
 cases t1:c !=0
 ·have: ¬c≠0:=by simpa using t1
  rw[if_neg this]
  refine kd (N:=23) (rs:= [.tmp 4]) Tryz.func15 ?_
  (repeat'(first|apply kA|apply kB|((first|refine kc (N:=23) ?_|apply kD|apply kE|refine kx hS ?_|apply kF);simp +decide only[go_sem,lngRow,t1])|(apply kG;(simp +decide only[go_sem,lngRow,t1];rfl);all_goals(intro hcnd;try exact kz hcnd))))
 ·have:c≠0:=by simpa using t1
  rw[if_pos this]
  refine kd (N:=23) (rs:= [.tmp 4]) Tryz.func15 ?_
  (repeat'(first|apply kA|apply kB|((first|refine kc (N:=23) ?_|apply kD|apply kE|refine kx hS ?_|refine kx hT ?_|apply kF);simp +decide only[go_sem,lngRow,t1])|(apply kG;(simp +decide only[go_sem,lngRow,t1];rfl);all_goals(intro hcnd;try exact kz hcnd))))
theorem rHead56_D(x:LX){d:Dic}(hd:OkD d)(id:Int):DCalls Tryz.prog 17 [.agg (lngRow x d),dv (li id)] (dv (ls (d.head id))):=by
 have hmax:maxLen=9223372036854775807:=rfl
 have hf:=hd.few
 have hG:=rGet_D d.lex id (by omega)
 have hS:=rSpelled_D x hd (getE d.lex id).1.form (by have:=get_form hd (id:=id);omega)
 have hH:=rHom_D d.lex id (by omega) (ok_form hd)
 have h3:=hom_rng (l:=d.lex) id
 have hN:=rTextN_D (homE d.lex id) (by omega) (by omega)
 have hnl:=numB_le h3.1 (by omega)
 have hsl:=sp_le hd (getE d.lex id).1.form
 have h2:=get_form hd (id:=id)
 have hsl2:(getE d.lex id).1.form.length*32≤3*32:=Nat.mul_le_mul_right _ h2
 simp only[lngRow]at hS
 unfold Dic.head
 generalize homE d.lex id=n at hH hN hnl h3 ⊢
 generalize getE d.lex id=p at hG hS hsl hsl2 ⊢
 obtain⟨e,b⟩:=p
 simp only[Ent.row]at hG hS hsl hsl2 ⊢
 generalize d.sp e.form=s at hS hsl ⊢
 cases b
 ·rw[if_pos rfl]
  refine kd (N:=35) (rs:= [.tmp 4]) Tryz.func17 ?_
  (repeat'(first|apply kA|apply kB|((first|refine kc (N:=35) ?_|apply kD|apply kE|refine kx hG ?_|apply kF);simp +decide only[go_sem,lngRow])|(apply kG;(simp +decide only[go_sem,lngRow];rfl);all_goals(intro hcnd;try exact kz hcnd))))
  rfl
 rw[if_neg (by decide)]
 have z1:(s.size+ #[(32:UInt8)].size≤maxLen)=True:=eq_true (by rw[show #[(32:UInt8)].size=1 from rfl];omega)
 have z2:(s.size+ #[(32:UInt8)].size+(numB n).size≤maxLen)=True:=eq_true (by rw[show #[(32:UInt8)].size=1 from rfl];omega)
 cases t1:n==0
 ·rw[if_pos (by have:n≠0:=(by simpa using t1);omega)]
  refine kd (N:=35) (rs:= [.tmp 4]) Tryz.func17 ?_
  (repeat'(first|apply kA|apply kB|((first|refine kc (N:=35) ?_|apply kD|apply kE|refine kx hG ?_|refine kx hS ?_|refine kx hH ?_|refine kx hN ?_|apply kF);simp +decide only[go_sem,lngRow,t1,z1,z2])|(apply kG;(simp +decide only[go_sem,lngRow,t1,z1,z2];rfl);all_goals(intro hcnd;try exact kz hcnd))))
  rw[ByteArray.append_assoc]
  rfl
 ·rw[if_neg (by have:n=0:=(by simpa using t1);omega)]
  refine kd (N:=35) (rs:= [.tmp 4]) Tryz.func17 ?_
  (repeat'(first|apply kA|apply kB|((first|refine kc (N:=35) ?_|apply kD|apply kE|refine kx hG ?_|refine kx hS ?_|refine kx hH ?_|apply kF);simp +decide only[go_sem,lngRow,t1])|(apply kG;(simp +decide only[go_sem,lngRow,t1];rfl);all_goals(intro hcnd;try exact kz hcnd))))
theorem joinR_snoc(l:List ByteArray)(s:ByteArray):joinR (l++ [s])=if l.length=0 then s else joinR l++comma++s:=by
 cases l with
 | nil=>rfl
 | cons x l=>simp[joinR,List.foldl_append]
theorem rJoined_D(l:List ByteArray)(hl:l.length≤1000)(hs: ∀s∈l,s.size≤100000):DCalls Tryz.prog 52 [dv (.sl 1 (strs l))] (dv (ls (joinR l))):=by
 have hmax:maxLen=9223372036854775807:=rfl
 refine kd (N:=22) (rs:= [.tmp 2]) Tryz.func52 ?_
 (repeat(first|apply kA|apply kB|((first|refine kc (N:=22) ?_|apply kD|apply kE);simp +decide only[go_sem])))
 refine dw_rng0 l (fun k=>kn 22 [(0,dv (.sl 1 (strs l))),(3,dv (ls (joinR (l.take k)))),(4,dv (li k))] noMem) (by omega) (kL rfl (by simp +decide only[go_sem,List.take_zero,joinR,empty_mk]) (by simp[noMem])) ?_ ?_
 ·intro k s he hk hm htk hlt hw
  have hx:=strs_at he
  have hst:joinR (l.take (k+1))=if(l.take k).length=0 then s else joinR (l.take k)++comma++s:=by rw[htk];exact joinR_snoc _ _
  have hkl:(l.take k).length=k:=by rw[List.length_take];omega
  have hle:=joinR_le3 (l:=l.take k) (fun s hs'=>hs s (List.mem_of_mem_take hs'))
  have hsl:=hs s hm
  have h10:(l.take k).length*(100000+2)≤1000*(100000+2):=Nat.mul_le_mul_right _ (by rw[List.length_take];omega)
  rw[hkl]at hst
  by_cases hk0:k=0
  ·rw[if_pos hk0]at hst
   have ha:joinR (l.take k)=ByteArray.empty:=by rw[hk0];rfl
   rw[ha]
   have t1:((0:Int)<(k:Int))=False:=by rw[hk0];simp
   have z3:((ByteArray.empty).size+s.size≤maxLen)=True:=eq_true (by rw[show (ByteArray.empty).size=0 from rfl];omega)
   (repeat'(first|apply kA|apply kB|((first|refine kc (N:=22) ?_|apply kD|apply kE);simp +decide only[go_sem,hlt,hw,hx,t1,z3])|(apply kG;(simp +decide only[go_sem,hlt,hw,hx,t1,z3];rfl);all_goals(intro hcnd;try exact kz hcnd))))
   exact kL rfl (by simp +decide only[go_sem,hst,ByteArray.empty_append]) (by simp[noMem])
  ·rw[if_neg hk0]at hst
   have t1:((0:Int)<(k:Int))=True:=by simp;omega
   generalize joinR (l.take k)=a at hst hle ⊢
   have z1:(a.size+ #[(44:UInt8),32].size≤maxLen)=True:=eq_true (by rw[show #[(44:UInt8),32].size=2 from rfl];omega)
   have z2:(a.size+ #[(44:UInt8),32].size+s.size≤maxLen)=True:=eq_true (by rw[show #[(44:UInt8),32].size=2 from rfl];omega)
   (repeat'(first|apply kA|apply kB|((first|refine kc (N:=22) ?_|apply kD|apply kE);simp +decide only[go_sem,hlt,hw,hx,t1,z1,z2])|(apply kG;(simp +decide only[go_sem,hlt,hw,hx,t1,z1,z2];rfl);all_goals(intro hcnd;try exact kz hcnd))))
   exact kL rfl (by simp +decide only[go_sem,hst,comma]) (by simp[noMem])
 ·intro hlt
  rw[List.take_length]
  (repeat'(first|apply kA|apply kB|((first|refine kc (N:=22) ?_|apply kD|apply kE|apply kF);simp +decide only[go_sem,hlt])|(apply kG;(simp +decide only[go_sem,hlt];rfl);all_goals(intro hcnd;try exact kz hcnd))))
theorem rHeads_D(x:LX){d:Dic}(hd:OkD d)(ids:List Int)(hl:ids.length≤1000):DCalls Tryz.prog 54 [.agg (lngRow x d),dv (.sl 1 (ints ids))] (dv (.sl 1 (strs (d.heads ids)))):=by
 have hmax:maxLen=9223372036854775807:=rfl
 refine kd (N:=23) (rs:= [.tmp 4]) Tryz.func54 ?_
 (repeat'(first|apply kA|apply kB|((first|refine kc (N:=23) ?_|refine kj (N:=23) kt45 ?_|apply kD|apply kE);simp +decide only[go_sem,lngRow])|(apply kG;(simp +decide only[go_sem,lngRow];rfl);all_goals(intro hcnd;try exact kz hcnd))))
 refine dw_own 5 5 1 (by simp +decide only[go_sem]) ?_
 refine dw_rng0 ids (fun k=>kn 23 [(1,dv (.sl 1 (ints ids))),(2,.one (.bx 2 9 0 0)),(5,.one (.own 5 1 (strs (d.heads (ids.take k))))),(6,dv (li k))] (ml [(2,[lngRow x d])])) (by omega) (kM rfl (by simp +decide only[go_sem,List.take_zero,Dic.heads,List.map_nil,lngRow,List.length_cons,List.length_nil]) (by simp +decide only[go_sem,lngRow])) ?_ ?_
 ·intro k n he hk hm htk hlt hw
  have hx:=ints_at2 he
  have hH:=rHead56_D x hd n
  simp only[lngRow]at hH
  have hst:=heads_take (d:=d) htk
  have hkl:(d.heads (ids.take k)).length=k:=by rw[heads_len,List.length_take];omega
  have r1:(((d.heads (ids.take k)).length+1)*16≤140737488355328)=True:=eq_true (by omega)
  (repeat'(first|apply kA|apply kB|((first|refine kc (N:=23) ?_|refine kj (N:=23) kt45 ?_|apply kD|apply kE|refine kx hH ?_);simp +decide only[go_sem,hlt,hw,hx,lngRow,r1])|(apply kG;(simp +decide only[go_sem,hlt,hw,hx,lngRow,r1];rfl);all_goals(intro hcnd;try exact kz hcnd))))
  exact kM rfl (by simp +decide only[go_sem,hst]) (by simp +decide only[go_sem,lngRow])
 ·intro hlt
  rw[List.take_length]
  (repeat'(first|apply kA|apply kB|((first|refine kc (N:=23) ?_|refine kj (N:=23) kt45 ?_|apply kD|apply kE);simp +decide only[go_sem,hlt])|(apply kG;(simp +decide only[go_sem,hlt];rfl);all_goals(intro hcnd;try exact kz hcnd))))
  refine dw_slot 4 _ (DLe.own_ _ _ _) ?_
  apply kF;simp +decide only[go_sem]
theorem rKind_D(k:Nat)(hk:k<6):DCalls Tryz.prog 53 [dv (li k)] (dv (ls (kindS k))):=by
 match k,hk with
 | 0,_=>
  refine kd (N:=7) (rs:= [.tmp 2]) Tryz.func53 ?_
  (repeat'(first|apply kA|apply kB|((first|refine kc (N:=7) ?_|apply kD|apply kE|apply kF);simp +decide only[go_sem,Int.reduceToNat,List.getElem?_cons_succ,List.getElem?_cons_zero,Int.toNat_natCast])|(apply kG;(simp +decide only[go_sem,Int.reduceToNat,List.getElem?_cons_succ,List.getElem?_cons_zero,Int.toNat_natCast];rfl);all_goals(intro hcnd;try exact kz hcnd))))
  rfl
 | 1,_=>
  refine kd (N:=7) (rs:= [.tmp 2]) Tryz.func53 ?_
  (repeat'(first|apply kA|apply kB|((first|refine kc (N:=7) ?_|apply kD|apply kE|apply kF);simp +decide only[go_sem,Int.reduceToNat,List.getElem?_cons_succ,List.getElem?_cons_zero,Int.toNat_natCast])|(apply kG;(simp +decide only[go_sem,Int.reduceToNat,List.getElem?_cons_succ,List.getElem?_cons_zero,Int.toNat_natCast];rfl);all_goals(intro hcnd;try exact kz hcnd))))
  rfl
 | 2,_=>
  refine kd (N:=7) (rs:= [.tmp 2]) Tryz.func53 ?_
  (repeat'(first|apply kA|apply kB|((first|refine kc (N:=7) ?_|apply kD|apply kE|apply kF);simp +decide only[go_sem,Int.reduceToNat,List.getElem?_cons_succ,List.getElem?_cons_zero,Int.toNat_natCast])|(apply kG;(simp +decide only[go_sem,Int.reduceToNat,List.getElem?_cons_succ,List.getElem?_cons_zero,Int.toNat_natCast];rfl);all_goals(intro hcnd;try exact kz hcnd))))
  rfl
 | 3,_=>
  refine kd (N:=7) (rs:= [.tmp 2]) Tryz.func53 ?_
  (repeat'(first|apply kA|apply kB|((first|refine kc (N:=7) ?_|apply kD|apply kE|apply kF);simp +decide only[go_sem,Int.reduceToNat,List.getElem?_cons_succ,List.getElem?_cons_zero,Int.toNat_natCast])|(apply kG;(simp +decide only[go_sem,Int.reduceToNat,List.getElem?_cons_succ,List.getElem?_cons_zero,Int.toNat_natCast];rfl);all_goals(intro hcnd;try exact kz hcnd))))
  rfl
 | 4,_=>
  refine kd (N:=7) (rs:= [.tmp 2]) Tryz.func53 ?_
  (repeat'(first|apply kA|apply kB|((first|refine kc (N:=7) ?_|apply kD|apply kE|apply kF);simp +decide only[go_sem,Int.reduceToNat,List.getElem?_cons_succ,List.getElem?_cons_zero,Int.toNat_natCast])|(apply kG;(simp +decide only[go_sem,Int.reduceToNat,List.getElem?_cons_succ,List.getElem?_cons_zero,Int.toNat_natCast];rfl);all_goals(intro hcnd;try exact kz hcnd))))
  rfl
 | 5,_=>
  refine kd (N:=7) (rs:= [.tmp 2]) Tryz.func53 ?_
  (repeat'(first|apply kA|apply kB|((first|refine kc (N:=7) ?_|apply kD|apply kE|apply kF);simp +decide only[go_sem,Int.reduceToNat,List.getElem?_cons_succ,List.getElem?_cons_zero,Int.toNat_natCast])|(apply kG;(simp +decide only[go_sem,Int.reduceToNat,List.getElem?_cons_succ,List.getElem?_cons_zero,Int.toNat_natCast];rfl);all_goals(intro hcnd;try exact kz hcnd))))
  rfl
theorem linkP_six(d:Dic)(e:Ent):d.linkP e 6=d.links e:=rfl
theorem rArticle_D(x:LX){d:Dic}(hd:OkD d)(id:Int):DCalls Tryz.prog 23 [.agg (lngRow x d),dv (li id)] (dv (.sl 1 (strs (d.article id)))):=by
 have hmax:maxLen=9223372036854775807:=rfl
 have hf:=hd.few
 have hG:=rGet_D d.lex id (by omega)
 have hH:=rHead56_D x hd id
 have hhl:=head_le hd id
 have hmem:(getE d.lex id).2=true→(getE d.lex id).1∈d.lex∧(getE d.lex id).1.id=id:=fun h=>getE_mem h
 unfold Dic.article
 generalize getE d.lex id=p at hG hmem ⊢
 obtain⟨e,b⟩:=p
 simp only[Ent.row]at hG hmem ⊢
 simp only[lngRow]at hH
 cases b
 ·rw[if_pos rfl]
  refine kd (N:=168) (rs:= [.tmp 4]) Tryz.func23 ?_
  (repeat'(first|apply kA|apply kB|((first|refine kc (N:=168) ?_|refine kj (N:=168) kt46 ?_|apply kD|apply kE|refine kx hG ?_);simp +decide only[go_sem,lngRow])|(apply kG;(simp +decide only[go_sem,lngRow];rfl);all_goals(intro hcnd;try exact kz hcnd))))
  refine dw_slot 4 _ (DLe.nil_ 1) ?_
  apply kF;simp +decide only[go_sem]
 rw[if_neg (by decide)]
 obtain⟨he,hid⟩:=hmem rfl
 have hM:=rHead56_D x hd e.main
 have hml:=head_le hd e.main
 simp only[lngRow]at hM
 by_cases h0:e.senses= []
 ·rw[if_pos h0]
  have t1:((e.senses.length:Int)==0)=true:=by rw[h0];rfl
  generalize d.head id=hh at hH hhl ⊢
  generalize d.head e.main=hm at hM hml ⊢
  have z1:(hh.size+ #[(58:UInt8),32,115,101,101,32].size≤maxLen)=True:=mx (by simp only[List.size_toArray,List.length_cons,List.length_nil];omega)
  have z2:(hh.size+ #[(58:UInt8),32,115,101,101,32].size+hm.size≤maxLen)=True:=mx (by simp only[List.size_toArray,List.length_cons,List.length_nil];omega)
  refine kd (N:=168) (rs:= [.tmp 4]) Tryz.func23 ?_
  (repeat'(first|apply kA|apply kB|((first|refine kc (N:=168) ?_|refine kj (N:=168) kt46 ?_|apply kD|apply kE|refine kx hG ?_|refine kx hH ?_|refine kx hM ?_);simp +decide only[go_sem,lngRow,t1,z1,z2])|(apply kG;(simp +decide only[go_sem,lngRow,t1,z1,z2];rfl);all_goals(intro hcnd;try exact kz hcnd))))
  refine dw_slot 4 _ (DLe.ex_ _ _) ?_
  apply kF;simp +decide only[go_sem]
  rfl
 rw[if_neg h0]
 have hsl:e.senses.length≠0:=by simpa using h0
 have hsf:=(links_few hd he).2
 have t1:((e.senses.length:Int)==0)=false:=by rw[beq_eq_false_iff_ne];omega
 have hna:=hd.nalt e he
 have hmid:=hd.mid e he
 refine kd (N:=168) (rs:= [.tmp 4]) Tryz.func23 ?_
 (repeat'(first|apply kA|apply kB|((first|refine kc (N:=168) ?_|refine kj (N:=168) kt46 ?_|apply kD|apply kE|refine kx hG ?_|refine kx hH ?_);simp +decide only[go_sem,lngRow,t1])|(refine dw_condT ?_ ?_;focus (simp +decide only[go_sem,lngRow,t1];done))|(refine dw_condF ?_ ?_;focus (simp +decide only[go_sem,lngRow,t1];done))))
 -- the alternatives
 refine dw_own 8 8 1 (by simp +decide only[go_sem]) ?_
 refine dw_rng0 e.alts (fun j=>kn 168 [(1,dv (li id)),(2,.one (.bx 2 9 0 0)),(5,.one (.bx 5 8 0 0)),(7,dv (ls (d.head id))),(8,.one (.own 8 1 (strs ((e.alts.take j).map d.sp)))),(9,dv (li j))] (ml [(2,[lngRow x d]),(5,[e.row])])) (by omega)
  (kM rfl (by simp +decide only[go_sem,lngRow,Ent.row,List.take_zero,List.map_nil,List.length_cons,List.length_nil]) (by simp +decide only[go_sem,lngRow,Ent.row])) ?_ ?_
 ·intro j w hy hj hm htk hlt hw
  have hS:=rSpelled_D x hd w (by have:=hd.alt e he w hm;omega)
  simp only[lngRow]at hS
  have hst:=alts_take (d:=d) htk
  have hat:=alt_at hy
  have hll:((e.alts.take j).map d.sp).length=j:=by rw[List.length_map,List.length_take];omega
  have r2:((((e.alts.take j).map d.sp).length+1)*16≤140737488355328)=True:=eq_true (by omega)
  have r3:(((e.alts.take j).length+1)*16≤140737488355328)=True:=eq_true (by rw[List.length_take];omega)
  (repeat'(first|apply kA|apply kB|((first|refine kc (N:=168) ?_|refine kj (N:=168) kt46 ?_|apply kD|apply kE|refine kx hS ?_);simp +decide only[go_sem,hlt,hw,hat,r2,r3,lngRow,Ent.row])|(apply kG;(simp +decide only[go_sem,hlt,hw,hat,r2,r3,lngRow,Ent.row];rfl);all_goals(intro hcnd;try exact kz hcnd))))
  exact kM rfl (by simp +decide only[go_sem,hst,lngRow,Ent.row]) (by simp +decide only[go_sem,lngRow,Ent.row])
 intro hlt
 rw[List.take_length]
 (repeat'(first|apply kA|apply kB|((first|refine kc (N:=168) ?_|refine kj (N:=168) kt46 ?_|apply kD|apply kE);simp +decide only[go_sem,hlt,lngRow,Ent.row])|(refine dw_condT ?_ ?_;focus (simp +decide only[go_sem,hlt,lngRow,Ent.row];done))|(refine dw_condF ?_ ?_;focus (simp +decide only[go_sem,hlt,lngRow,Ent.row];done))))
 refine dw_afterN (fun _:Unit=>kn 168 [(1,dv (li id)),(2,.one (.bx 2 9 0 0)),(5,.one (.bx 5 8 0 0)),(7,dv (ls (d.first e)))] (ml [(2,[lngRow x d]),(5,[e.row])])) (fun _=>True) ?_ ?_
 ·by_cases ha:e.alts= []
  ·have t2:((0:Int)<(e.alts.length:Int))=False:=by rw[ha];simp
   have hfe:d.first e=d.head id:=by unfold Dic.first;rw[if_pos ha,hid]
   (repeat'(first|apply kA|apply kB|((first|refine kc (N:=168) ?_|refine kj (N:=168) kt46 ?_|apply kD|apply kE);simp +decide only[go_sem,t2,lngRow,Ent.row,List.length_map])|(apply kG;(simp +decide only[go_sem,t2,lngRow,Ent.row,List.length_map];rfl);all_goals(intro hcnd;try exact kz hcnd))))
   exact⟨(),kM rfl (by simp +decide only[go_sem,hfe,lngRow,Ent.row]) (by simp +decide only[go_sem,lngRow,Ent.row])⟩
  ·have hap:0<e.alts.length:=List.length_pos_iff.2 ha
   have t2:((0:Int)<(e.alts.length:Int))=True:=by simp;omega
   have hfe:d.first e=d.head id++tildeS++joinR (e.alts.map d.sp):=by unfold Dic.first;rw[if_neg ha,hid,ByteArray.append_assoc]
   have hsz: ∀s∈e.alts.map d.sp,s.size≤96:=fun s hs=>by
    obtain⟨w,hw,rfl⟩:=List.mem_map.1 hs
    have h1:=sp_le hd w
    have h2:=hd.alt e he w hw
    have:w.length*32≤3*32:=Nat.mul_le_mul_right _ h2
    omega
   have hJ:=rJoined_D (e.alts.map d.sp) (by rw[List.length_map];omega) (fun s hs=>by have:=hsz s hs;omega)
   have hjl:=joinR_le3 hsz
   rw[List.length_map]at hjl
   have h10:e.alts.length*(96+2)≤1*(96+2):=Nat.mul_le_mul_right _ hna
   generalize hjj:joinR (e.alts.map d.sp)=jj at hJ hjl hfe
   have z1:((d.head id).size+ #[(32:UInt8),126,32].size≤maxLen)=True:=mx (by simp only[List.size_toArray,List.length_cons,List.length_nil];omega)
   have z2:((d.head id).size+ #[(32:UInt8),126,32].size+jj.size≤maxLen)=True:=mx (by simp only[List.size_toArray,List.length_cons,List.length_nil];omega)
   (repeat'(first|apply kA|apply kB|((first|refine kc (N:=168) ?_|refine kj (N:=168) kt46 ?_|apply kD|apply kE|refine kx hJ ?_);simp +decide only[go_sem,t2,z1,z2,lngRow,Ent.row,List.length_map])|(apply kG;(simp +decide only[go_sem,t2,z1,z2,lngRow,Ent.row,List.length_map];rfl);all_goals(intro hcnd;try exact kz hcnd))))
   exact⟨(),kM rfl (by simp +decide only[go_sem,hfe,tildeS,lngRow,Ent.row]) (by simp +decide only[go_sem,lngRow,Ent.row])⟩
 rintro _ _
 clear hlt
 have hV:=rAll_D d.lex id (by omega)
 have hll:=links_len (d:=d) e
 have hal:=all_len d.lex id
 (repeat'(first|apply kA|apply kB|((first|refine kc (N:=168) ?_|refine kj (N:=168) kt46 ?_|apply kD|apply kE);simp +decide only[go_sem,lngRow,Ent.row])|(refine dw_condT ?_ ?_;focus (simp +decide only[go_sem,lngRow,Ent.row];done))|(refine dw_condF ?_ ?_;focus (simp +decide only[go_sem,lngRow,Ent.row];done))))
 refine dw_ownX (xs:= [[ls (d.first e)]]) 10 10 1 (by simp +decide only[go_sem]) ?_
 refine dw_rng0 e.senses (fun k=>kn 168 [(1,dv (li id)),(2,.one (.bx 2 9 0 0)),(5,.one (.bx 5 8 0 0)),(10,.one (.own 10 1 (strs (d.first e::senP e.senses k)))),(11,dv (li k))] (ml [(2,[lngRow x d]),(5,[e.row])])) (by omega)
  (kM rfl (by simp +decide only[go_sem,lngRow,Ent.row,senP_zero,List.map_cons,List.map_nil,List.length_cons,List.length_nil]) (by simp +decide only[go_sem,lngRow,Ent.row])) ?_ ?_
 ·intro k s hs1 hk hm htk hlt hw
  have hst:=senP_succ hs1
  have hsl2:=senP_len e.senses k
  have r1:(((senP e.senses k).length+1+1)*16≤140737488355328)=True:=eq_true (by omega)
  have hN:=rTextN_D ((k+1:Nat):Int) (by omega) (by omega)
  have hnl:=numB_le (n:=((k+1:Nat):Int)) (by omega) (by omega)
  have hcast:((k:Int)+1)=((k+1:Nat):Int):=by omega
  have hstr:=hmid.strs s hm
  unfold senseS at hst
  rw[hcast]at hst
  generalize numB ((k+1:Nat):Int)=nb at hN hnl hst
  have z1:(#[(32:UInt8),32].size+nb.size≤maxLen)=True:=mx (by simp only[List.size_toArray,List.length_cons,List.length_nil];omega)
  have z2:(#[(32:UInt8),32].size+nb.size+ #[(46:UInt8),32].size≤maxLen)=True:=mx (by simp only[List.size_toArray,List.length_cons,List.length_nil];omega)
  have z3:(#[(32:UInt8),32].size+nb.size+ #[(46:UInt8),32].size+s.gloss.size≤maxLen)=True:=mx (by simp only[List.size_toArray,List.length_cons,List.length_nil];omega)
  have z4:(#[(32:UInt8),32].size+nb.size+ #[(46:UInt8),32].size+s.gloss.size+ #[(58:UInt8),32].size≤maxLen)=True:=mx (by simp only[List.size_toArray,List.length_cons,List.length_nil];omega)
  have z5:(#[(32:UInt8),32].size+nb.size+ #[(46:UInt8),32].size+s.gloss.size+ #[(58:UInt8),32].size+s.txt.size≤maxLen)=True:=mx (by simp only[List.size_toArray,List.length_cons,List.length_nil];omega)
  have e1:=size0 s.txt
  cases t2:s.txt.size==0
  ·rw[t2]at e1
   rw[if_pos (by simpa using t2),← ByteArray.append_assoc]at hst
   (repeat'(first|apply kA|apply kB|((first|refine kc (N:=168) ?_|refine kj (N:=168) kt46 ?_|apply kD|apply kE|refine kx hN ?_);simp +decide only[go_sem,hlt,hw,hs1,e1,z1,z2,z3,z4,z5,r1,Sns.enc,lngRow,Ent.row,Bool.not_false,Bool.not_true])|(apply kG;(simp +decide only[go_sem,hlt,hw,hs1,e1,z1,z2,z3,z4,z5,r1,Sns.enc,lngRow,Ent.row,Bool.not_false,Bool.not_true];rfl);all_goals(intro hcnd;try exact kz hcnd))))
   refine kM rfl (by simp +decide only[go_sem,hst,lngRow,Ent.row,List.map_append,List.map_cons,List.map_nil,two,dotS,colonS]) (by simp +decide only[go_sem,lngRow,Ent.row])
  ·rw[t2]at e1
   rw[if_neg (by simpa using t2)]at hst
   (repeat'(first|apply kA|apply kB|((first|refine kc (N:=168) ?_|refine kj (N:=168) kt46 ?_|apply kD|apply kE|refine kx hN ?_);simp +decide only[go_sem,hlt,hw,hs1,e1,z1,z2,z3,z4,z5,r1,Sns.enc,lngRow,Ent.row,Bool.not_false,Bool.not_true])|(apply kG;(simp +decide only[go_sem,hlt,hw,hs1,e1,z1,z2,z3,z4,z5,r1,Sns.enc,lngRow,Ent.row,Bool.not_false,Bool.not_true];rfl);all_goals(intro hcnd;try exact kz hcnd))))
   refine kM rfl (by simp +decide only[go_sem,hst,lngRow,Ent.row,List.map_append,List.map_cons,List.map_nil,two,dotS,colonS]) (by simp +decide only[go_sem,lngRow,Ent.row])
 intro hlt
 have hsl2:=senP_len e.senses e.senses.length
 have hfull:d.full e=(d.first e::senP e.senses e.senses.length)++d.links e++(if allE d.lex id= []then []else [varS++joinR (d.heads (allE d.lex id))]):=by unfold Dic.full;rw[senP_all,hid];rfl
 rw[hfull]
 have hh1:(d.first e::senP e.senses e.senses.length).length≤6:=by rw[List.length_cons];omega
 generalize d.first e::senP e.senses e.senses.length=hdr at hh1 ⊢
 have hlk:=(links_few hd he).1
 (repeat'(first|apply kA|apply kB|((first|refine kc (N:=168) ?_|refine kj (N:=168) kt46 ?_|apply kD|apply kE);simp +decide only[go_sem,hlt,lngRow,Ent.row])|(apply kG;(simp +decide only[go_sem,hlt,lngRow,Ent.row];rfl);all_goals(intro hcnd;try exact kz hcnd))))
 refine dw_loop_fam (fun k:Nat=>kn 168 [(1,dv (li id)),(2,.one (.bx 2 9 0 0)),(5,.one (.bx 5 8 0 0)),(10,.one (.own 10 1 (strs (hdr++d.linkP e k)))),(13,dv (li k))] (ml [(2,[lngRow x d]),(5,[e.row])])) (fun k=>k≤6) (fun k=>6 - k) 0
  (kM rfl (by simp +decide only[go_sem,lngRow,Ent.row,linkP_zero,List.append_nil]) (by simp +decide only[go_sem,lngRow,Ent.row])) (by omega) ?_
 intro k hk
 have hfl:=flat_len d e k
 have hhl2:(hdr++d.linkP e k).length=hdr.length+(d.linkP e k).length:=List.length_append
 have r1:(((hdr++d.linkP e k).length+1)*16≤140737488355328)=True:=eq_true (by omega)
 by_cases k6:k<6
 ·have t1:((k:Int)≤5)=True:=by simp;omega
  have hst:=linkP_succ d e k
  have hst9:strs (hdr++d.linkP e (k+1))=strs (hdr++d.linkP e k)++strs (d.kindL e k):=by rw[hst,← List.append_assoc];simp[strs]
  generalize hdr++d.linkP e k=pre at hhl2 r1 hst9 ⊢
  (repeat'(first|apply kA|apply kB|((first|refine kc (N:=168) ?_|refine kj (N:=168) kt46 ?_|apply kD|apply kE);simp +decide only[go_sem,t1,lngRow,Ent.row])|(apply kG;(simp +decide only[go_sem,t1,lngRow,Ent.row];rfl);all_goals(intro hcnd;try exact kz hcnd))))
  refine dw_own 14 14 1 (by simp +decide only[go_sem]) ?_
  refine dw_rng0 e.links (fun j=>kn 168 [(1,dv (li id)),(2,.one (.bx 2 9 0 0)),(5,.one (.bx 5 8 0 0)),(10,.one (.own 10 1 (strs pre))),(13,dv (li k)),(14,.one (.own 14 1 (ints (kindT (e.links.take j) k)))),(15,dv (li j))] (ml [(2,[lngRow x d]),(5,[e.row])])) (by omega)
   (kM rfl (by simp +decide only[go_sem,lngRow,Ent.row,List.take_zero,kindT,List.filter_nil,List.map_nil,List.length_cons,List.length_nil]) (by simp +decide only[go_sem,lngRow,Ent.row])) ?_ ?_
  ·intro j y hy hj hm htk hlt hw
   have hst:=kindT_snoc (e.links.take j) y k
   rw[← htk]at hst
   have hln:=kindT_len (e.links.take j) k
   have r2:(((kindT (e.links.take j) k).length+1)*8≤140737488355328)=True:=eq_true (by rw[List.length_take]at hln;omega)
   cases t2:y.kind==(k:Int)
   ·rw[t2,if_neg (by decide),List.append_nil]at hst
    (repeat'(first|apply kA|apply kB|((first|refine kc (N:=168) ?_|refine kj (N:=168) kt46 ?_|apply kD|apply kE);simp +decide only[go_sem,hlt,hw,hy,t2,r2,Lnk.enc,lngRow,Ent.row])|(apply kG;(simp +decide only[go_sem,hlt,hw,hy,t2,r2,Lnk.enc,lngRow,Ent.row];rfl);all_goals(intro hcnd;try exact kz hcnd))))
    exact kM rfl (by simp +decide only[go_sem,hst,lngRow,Ent.row]) (by simp +decide only[go_sem,lngRow,Ent.row])
   ·rw[t2,if_pos rfl]at hst
    have hst2:ints (kindT (e.links.take (j+1)) k)=ints (kindT (e.links.take j) k)++ [[li y.tgt]]:=by rw[hst];simp
    (repeat'(first|apply kA|apply kB|((first|refine kc (N:=168) ?_|refine kj (N:=168) kt46 ?_|apply kD|apply kE);simp +decide only[go_sem,hlt,hw,hy,t2,r2,Lnk.enc,lngRow,Ent.row])|(apply kG;(simp +decide only[go_sem,hlt,hw,hy,t2,r2,Lnk.enc,lngRow,Ent.row];rfl);all_goals(intro hcnd;try exact kz hcnd))))
    exact kM rfl (by simp +decide only[go_sem,hst2,lngRow,Ent.row]) (by simp +decide only[go_sem,lngRow,Ent.row])
  intro hlt
  rw[List.take_length]
  have hki:kindT e.links k=kindIds e k:=rfl
  rw[hki]
  have hkl:(kindIds e k).length≤12:=Nat.le_trans (kindT_len e.links k) hlk
  have hHs:=rHeads_D x hd (kindIds e k) (by omega)
  have hJ:=rJoined_D (d.heads (kindIds e k)) (by rw[heads_len];omega) (fun s hs=>by have:=heads_le hd (kindIds e k) s hs;omega)
  have hjs:=joinR_le3 (heads_le hd (kindIds e k))
  rw[heads_len]at hjs
  have h10:(kindIds e k).length*(400+2)≤12*(400+2):=Nat.mul_le_mul_right _ hkl
  have hK:=rKind_D k k6
  have hks:=kindS_le k
  have w1:IntKind.i64.wrap ((k:Int)+1)=((k+1:Nat):Int):=wrap_succ k (by omega)
  simp only[lngRow]at hHs
  unfold Dic.kindL at hst9
  by_cases h0:kindIds e k= []
  ·rw[if_pos h0]at hst9
   have t3:((0:Int)<((kindIds e k).length:Int))=False:=by rw[h0];simp
   (repeat'(first|apply kA|apply kB|((first|refine kc (N:=168) ?_|refine kj (N:=168) kt46 ?_|apply kD|apply kE);simp +decide only[go_sem,hlt,t3,w1,lngRow,Ent.row])|(apply kG;(simp +decide only[go_sem,hlt,t3,w1,lngRow,Ent.row];rfl);all_goals(intro hcnd;try exact kz hcnd))))
   refine⟨k+1,by omega,by omega,?_⟩
   rw[hst9]
   exact kM rfl (by simp +decide only[go_sem,lngRow,Ent.row,List.map_nil,List.append_nil]) (by simp +decide only[go_sem,lngRow,Ent.row])
  ·rw[if_neg h0]at hst9
   have hp:0<(kindIds e k).length:=List.length_pos_iff.2 h0
   have t3:((0:Int)<((kindIds e k).length:Int))=True:=by simp;omega
   generalize hks':kindS k=ks at hK hks hst9
   generalize hjj:joinR (d.heads (kindIds e k))=jj at hJ hjs hst9
   have z1:(#[(32:UInt8),32].size+ks.size≤maxLen)=True:=mx (by simp only[List.size_toArray,List.length_cons,List.length_nil];omega)
   have z2:(#[(32:UInt8),32].size+ks.size+ #[(58:UInt8),32].size≤maxLen)=True:=mx (by simp only[List.size_toArray,List.length_cons,List.length_nil];omega)
   have z3:(#[(32:UInt8),32].size+ks.size+ #[(58:UInt8),32].size+jj.size≤maxLen)=True:=mx (by simp only[List.size_toArray,List.length_cons,List.length_nil];omega)
   (repeat'(first|apply kA|apply kB|((first|refine kc (N:=168) ?_|refine kj (N:=168) kt46 ?_|apply kD|apply kE|refine kx hK ?_|refine kx hHs ?_|refine kx hJ ?_);simp +decide only[go_sem,hlt,t3,w1,z1,z2,z3,r1,lngRow,Ent.row])|(apply kG;(simp +decide only[go_sem,hlt,t3,w1,z1,z2,z3,r1,lngRow,Ent.row];rfl);all_goals(intro hcnd;try exact kz hcnd))))
   refine⟨k+1,by omega,by omega,?_⟩
   rw[hst9]
   exact kM rfl (by simp +decide only[go_sem,lngRow,Ent.row,two,colonS,List.map_cons,List.map_nil]) (by simp +decide only[go_sem,lngRow,Ent.row])
 ·have t1:((k:Int)≤5)=False:=by simp;omega
  have e6:k=6:=by omega
  subst e6
  rw[linkP_six]at hhl2 r1 ⊢
  have hl6:(d.links e).length≤6:=hll
  generalize hdr++d.links e=pre at hhl2 r1 ⊢
  by_cases hv:allE d.lex id= []
  ·have t3:((0:Int)<((allE d.lex id).length:Int))=False:=by rw[hv];simp
   rw[if_pos hv,List.append_nil]
   (repeat'(first|apply kA|apply kB|((first|refine kc (N:=168) ?_|refine kj (N:=168) kt46 ?_|apply kD|apply kE|refine kx hV ?_);simp +decide only[go_sem,t1,t3,lngRow,Ent.row])|(apply kG;(simp +decide only[go_sem,t1,t3,lngRow,Ent.row];rfl);all_goals(intro hcnd;try exact kz hcnd))))
   refine dw_slot 4 _ (DLe.own_ _ _ _) ?_
   apply kF;simp +decide only[go_sem]
  ·have hvp:0<(allE d.lex id).length:=List.length_pos_iff.2 hv
   have t3:((0:Int)<((allE d.lex id).length:Int))=True:=by simp;omega
   rw[if_neg hv]
   have hHs:=rHeads_D x hd (allE d.lex id) (by omega)
   simp only[lngRow]at hHs
   have hJ:=rJoined_D (d.heads (allE d.lex id)) (by rw[heads_len];omega) (fun s hs=>by have:=heads_le hd (allE d.lex id) s hs;omega)
   have hjl:=joinR_le3 (heads_le hd (allE d.lex id))
   rw[heads_len]at hjl
   have h10:(allE d.lex id).length*(400+2)≤5*(400+2):=Nat.mul_le_mul_right _ (by omega)
   generalize joinR (d.heads (allE d.lex id))=jj at hJ hjl ⊢
   have z1:(#[(32:UInt8),32,118,97,114,105,97,110,116,115,58,32].size+jj.size≤maxLen)=True:=mx (by simp only[List.size_toArray,List.length_cons,List.length_nil];omega)
   (repeat'(first|apply kA|apply kB|((first|refine kc (N:=168) ?_|refine kj (N:=168) kt46 ?_|apply kD|apply kE|refine kx hV ?_|refine kx hHs ?_|refine kx hJ ?_);simp +decide only[go_sem,t1,t3,r1,z1,lngRow,Ent.row])|(apply kG;(simp +decide only[go_sem,t1,t3,r1,z1,lngRow,Ent.row];rfl);all_goals(intro hcnd;try exact kz hcnd))))
   refine dw_slot 4 _ (DLe.own_ _ _ _) ?_
   apply kF;simp +decide only[go_sem]
   simp only[strs,List.map_append,List.map_cons,List.map_nil]
   rfl
theorem lawArticle(g:Lng)(id:Int)(hm:MidL g):DCalls Tryz.prog 5 [.agg (lngRow g.x g.d),dv (li id)] (dv (lb true)):=by
 have hmax:maxLen=9223372036854775807:=rfl
 have hL:=rLight_D g hm
 have hW:=awake_D
 simp only[lngRow]at hL
 refine kd (N:=19) (rs:= [.tmp 4]) Tryz.func5 ?_
 cases t1:lightB g
 ·rw[t1]at hL
  (repeat'(first|apply kA|apply kB|((first|refine kc (N:=19) ?_|refine kj (N:=19) kt47 ?_|apply kD|apply kE|refine kx hL ?_|refine kx hW ?_|apply kF);simp +decide only[go_sem,lngRow])|(apply kG;(simp +decide only[go_sem,lngRow];rfl);all_goals(intro hcnd;try exact kz hcnd))|((first|apply kH|apply kI)<;>(intro hcnd;simp +decide only[go_sem,hcnd,lngRow]))))
 rw[t1]at hL
 have hok:=light_ok hm t1
 have hA:=article_D g.x hok id
 have hB:=rArticle_D g.x hok id
 have hE:=equal_D (g.d.article id) (g.d.article id) (by have:=article_len hok id;omega)
 rw[decide_eq_true rfl]at hE
 simp only[lngRow]at hA hB
 (repeat'(first|apply kA|apply kB|((first|refine kc (N:=19) ?_|refine kj (N:=19) kt47 ?_|apply kD|apply kE|refine kx hL ?_|refine kx hW ?_|refine kx hA ?_|refine kx hB ?_|refine kx hE ?_|apply kF);simp +decide only[go_sem,lngRow])|(apply kG;(simp +decide only[go_sem,lngRow];rfl);all_goals(intro hcnd;try exact kz hcnd))|((first|apply kH|apply kI)<;>(intro hcnd;simp +decide only[go_sem,hcnd,lngRow]))))
end Go.Proofs.YtehdkccjaeckhaaGreatDoor
