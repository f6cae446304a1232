/- The logic of data over the kit's walk, and contracts of the functions that the laws reach, each said by plain data; part 5 of 6. -/
import Derived.Sort.Walk0
import Derived.Test.YtehdkccjaeckhaaGreatDoorn3
set_option linter.all false
set_option linter.unusedVariables false
set_option linter.unusedSimpArgs false
set_option maxRecDepth 10000
set_option maxHeartbeats 8000000
open Go.Dl renaming dw_seq → kA, dw_block → kB, dw_reg → kC, dw_skip → kD, dw_exit → kE, dw_ret → kF, dw_cond → kG, guardC_f → kH, guardC_t → kI, dw_drw → kJ, dw_weaken → kK, sub_kn → kL, sub_ml → kM
open Go.Dl.CallC renaming mk → kN, light → kO
open Go.Dl.LeL renaming of_eq → kP
namespace Go.Proofs.YtehdkccjaeckhaaGreatDoor
abbrev kpn22:List (Nat×Go.Dl.Mode):= [(0,.light),(1,.light),(2,.light),(3,.light),(4,.light),(5,.light),(6,.step)]
abbrev kq21:Nat→List (Nat×Go.Dl.Mode):=fun n=>match n with|5=>kpn4|10=>kpn6|12=>kpn22|_=> []
end Go.Proofs.YtehdkccjaeckhaaGreatDoor
namespace Go.Proofs.YtehdkccjaeckhaaGreatDoor.V
open Go.Dl
attribute [local irreducible] DW DCalls ECalls wk
abbrev VRow:=ByteArray×List Part
def viewL(L:List IRow):List VRow:=L.map fun r=>(r.gloss,r.ps)
def putV(V:List VRow)(g:ByteArray)(i:Nat):List VRow:=if(V.map (·.1))[i]?.map (fun q=>cmpS q g)=some 0 then V else V.take i++(g,[])::V.drop i
def takeV(V:List VRow)(g:ByteArray)(i:Nat):List VRow:=if(V.map (·.1))[i]?.map (fun q=>cmpS q g)=some 0 then V.take i++V.drop (i+1)else V
def turnP(inn:Bool)(ps:List Part)(p:Part)(q:Nat):List Part:=if inn=true then putAt ps p q else takeAt ps p q
theorem turn_ne{inn:Bool}(h:inn=true)(ps:List Part)(p:Part)(q:Nat):turnP inn ps p q≠ []:=by
 unfold turnP putAt
 rw[if_pos h]
 split
 ·rename_i h2
  intro e
  rw[e]at h2;simp at h2
 ·simp
def StepV(g:ByteArray)(p:Part)(inn:Bool)(V V':List VRow):Prop:=
 ∃i g1 ps q,BsOk (bsG (V.map (·.1)) g) V.length i∧(putV V g i)[i]? =some (g1,ps)∧BsOk (bsF ps p) ps.length q∧
  if turnP inn ps p q= []then ∃i2,BsOk (bsG (((putV V g i).set i (g1,[])).map (·.1)) g) (putV V g i).length i2∧V'=takeV ((putV V g i).set i (g1,[])) g i2
  else V'=(putV V g i).set i (g1,turnP inn ps p q)
def StepsV(id:Int)(inn:Bool)(ss:List Sns):Nat→List VRow→List VRow→Prop
 | 0,V,V'=>V'=V
 | k+1,V,V'=>∃V1,StepsV id inn ss k V V1∧match ss[k]? with
  | some s=>StepV s.gloss (pt id k) inn V1 V'
  | none=>V'=V1
theorem nodup_ins{l m:List Nat}{a:Nat}(h:(l++m).Nodup)(ha:a∉l++m):(l++a::m).Nodup:=by
 rw[List.nodup_append]at h ⊢
 simp only[List.mem_append,not_or]at ha
 refine⟨h.1,List.nodup_cons.2 ⟨ha.2,h.2.1⟩,fun x hx y hy=>?_⟩
 rcases List.mem_cons.1 hy with rfl|hy
 ·exact fun e=>ha.1 (e▸hx)
 ·exact h.2.2 x hx y hy
theorem mapSome{f:Dl.Rows→Dl.Rows}(b:Option Dl.Rows){o r:Dl.Rows}{x:Option Dl.Rows}(hb:b=some o)(hx:x=some (f o))(hk:x=some r):b.map f=some r:=by
 rw[hb,← hk,hx];rfl
theorem change_E(X B:Nat)(hX:NB≤X)(e:Ent)(inn:Bool)(hinn:inn=true)(L0:List IRow)(jr0:Nat)(hL0:IxOk B L0)(hs:e.senses.length≤1000)(hB0:1001≤B)(hB:B≤80000)(hlen:L0.length≤3000)(hlens: ∀r∈L0,r.ps.length≤3000):
  ECalls Tryz.prog 93 [.one (.bx X 2 0 0),.agg (e.enc.map T.c),dv (lb inn)] (ixM X L0 jr0)
   (fun r H'=>r= .tup []∧∃L jr,StepsV e.id inn e.senses e.senses.length (viewL L0) (viewL L)∧IxOk (B+e.senses.length) L∧H' X=ixM X L jr X∧∀k,mid k→H' k=ixM X L jr k):=by
 have hNB:=NB_big
 have hmax:(1000000:Nat)<maxLen:=by simp[maxLen]
 have hXm: ¬mid X:=notmidNB hX
 have hXlt:(X<NB)=False:=by simp;omega
 have hXe: ∀k,k<1000→(X=k)=False:=fun k hk=>by simp;omega
 have hXe2: ∀k,k<1000→(k=X)=False:=fun k hk=>by simp;omega
 refine ecalls (N:=67) (rs:= []) (by kernel_rfl) Tryz.func93 rfl rfl rfl (by simp) ?_
 (repeat(first|apply kA|apply kB|((first|refine kc (N:=67) ?_|refine kj (N:=67) kq21 ?_|apply kD|apply kE);simp +decide only[go_sem,Ent.enc])))
 refine dw_loop_fam (fun x:Nat×List IRow×Nat=>kn 67 [(0,.one (.bx X 2 0 0)),(2,dv (lb inn)),(4,.one (.bx 4 8 0 0)),(12,dv (.sl 2 (e.senses.map Sns.enc))),(13,dv (li e.senses.length)),(14,dv (li x.1))] (fun k=>if k=4 then some [e.enc.map T.c]else ixM X x.2.1 x.2.2 k))
  (fun x=>x.1≤e.senses.length∧IxOk (B+x.1) x.2.1∧x.2.1.length≤3000+x.1∧(∀r∈x.2.1,r.ps.length≤3000+x.1)∧StepsV e.id inn e.senses x.1 (viewL L0) (viewL x.2.1)) (fun x=>e.senses.length - x.1) (0,L0,jr0)
  ?_ ⟨by omega,hL0,hlen,hlens,rfl⟩ ?_
 ·have hfg: ∀(m k:Nat),m<1000→(ixM X L0 jr0 k).map (Dl.Rows.tr (fgt m))=ixM X L0 jr0 k:=fun m k hm=>(ixM_ok hX hL0 jr0).fgt hm k
  refine kL rfl (by simp +decide only[go_sem,Ent.enc,hXe]) ?_
  intro k r hk
  simp +decide only[go_sem,hfg,Ent.enc]
  by_cases h4:k=4
  ·rw[if_pos h4]at hk ⊢;rw[← hk];rfl
  ·rw[if_neg h4]at hk ⊢;exact hk
 rintro⟨i,L,jr⟩ ⟨hi,hL,hll,hls,hV⟩
 simp only at hi hL hll hls hV
 rcases Nat.lt_or_ge i e.senses.length with hlt|hge
 ·obtain⟨s,hs1⟩: ∃s,e.senses[i]? =some s:=⟨e.senses[i],List.getElem?_eq_getElem hlt⟩
  have hd:decide ((i:Int)<(e.senses.length:Int))=true:=by simpa using hlt
  have hw:=wrap_succ i (by omega)
  have hok:=ixM_ok hX hL jr
  have hfg: ∀(m k:Nat),m<1000→(ixM X L jr k).map (Dl.Rows.tr (fgt m))=ixM X L jr k:=fun m k hm=>hok.fgt hm k
  (repeat(first|apply kA|apply kB|((first|refine kc (N:=67) ?_|refine kj (N:=67) kq21 ?_|apply kD|apply kE);simp +decide only[go_sem,hd])))
  apply kG;(simp +decide only[go_sem];rfl)
  ·intro _
   (repeat(first|apply kA|apply kB|((first|refine kc (N:=67) ?_|refine kj (N:=67) kq21 ?_|apply kD|apply kE);simp +decide only[go_sem,hs1,Ent.enc,Sns.enc,hXe,hXe2,hXlt,hfg])))
   have hlm:(L.map irow).length=L.length:=by simp
   have hput:=putR_E (X+NB) 1000 (by omega) (Nat.le_refl _) (by omega) (carry X (ixM X L jr X) (ixM X L jr)) (carry_ok hok (fun r hr=>(hok X r hr).2)) (L.map irow) (L.map (·.gloss)) jr s.gloss (by rw[hlm];omega) (by simp) (irow_get L) (irow_sz L)
    (by rw[carry_x,ixM_x,hlm]) (by rw[carry_mid ⟨Nat.le_refl _,by omega⟩,ixM_r (by omega)]) (fun k r hk hkx=>by
     unfold carry at hk
     rw[if_neg hkx]at hk
     split at hk
     ·rename_i hkm;exact ixM_fix hL jr k r hk (fun e=>hXm (e▸hkm))
     ·cases hk)
   refine CallC.eff (caps:= []) [X] hput (by simp +decide only[go_sem]) (DLeL.of_eq (by simp +decide only[go_sem])) (carry_call hok hXm (by simp +decide only[go_sem,hXe,hfg]) (fun r hr=>(hok X r hr).2) (fun k hk=>?_)) ⟨by simpa using hXm,fun m hm=>by simp at hm;subst hm;simp;omega⟩ ?_
   ·have hmk: ∀m,m<1000→(k=m)=False:=fun m hm=>by simp;have:=hk.1;omega
    simp +decide only[go_sem,hmk,hfg]
   rintro r H1 ⟨at_,j1,hb1,rfl,h1x,h1r,h1k⟩
   rw[hlm]at hb1
   let L1:List IRow:=if(L.map (·.gloss))[at_]?.map (fun q=>cmpS q s.gloss)=some 0 then L else L.take at_++⟨s.gloss,B+i,[],0⟩::L.drop at_
   have hL1:IxOk (B+i+1) L1:=by
    have hbl:=hb1.1
    simp only[L1]
    split
    ·exact⟨by omega,hL.nd,fun r hr=>by have:=hL.rng r hr;omega,by omega,fun r hr=>by have:=hls r hr;omega⟩
    ·refine⟨by omega,?_,fun r hr=>?_,by simp;omega,fun r hr=>?_⟩
     ·have hnew:B+i∉L.map (·.k):=fun h=>by
       obtain⟨r,hr,he⟩:=List.mem_map.1 h
       have:=(hL.rng r hr).2
       omega
      have h0:=hL.nd
      rw[← List.take_append_drop at_ L,List.map_append]at h0 hnew
      rw[List.map_append,List.map_cons]
      exact nodup_ins h0 hnew
     ·simp only[List.mem_append,List.mem_cons]at hr
      rcases hr with h|rfl|h
      ·have:=hL.rng r (List.mem_of_mem_take h);omega
      ·simp only;omega
      ·have:=hL.rng r (List.mem_of_mem_drop h);omega
     ·simp only[List.mem_append,List.mem_cons]at hr
      rcases hr with h|rfl|h
      ·have:=hls r (List.mem_of_mem_take h);omega
      ·simp
      ·have:=hls r (List.mem_of_mem_drop h);omega
   have hv1:viewL L1=putV (viewL L) s.gloss at_:=by
    have hvg0:(viewL L).map (·.1)=L.map (·.gloss):=by simp[viewL]
    simp only[L1,putV,hvg0]
    split<;>simp[viewL,List.map_take,List.map_drop]
   have hls1: ∀r∈L1,r.ps.length≤3000+i:=fun r hm=>by
    simp only[L1]at hm
    split at hm
    ·exact hls r hm
    ·simp only[List.mem_append,List.mem_cons]at hm
     rcases hm with h|rfl|h
     ·exact hls r (List.mem_of_mem_take h)
     ·simp
     ·exact hls r (List.mem_of_mem_drop h)
   have hll1:L1.length≤3000+i+1:=by
    simp only[L1]
    split
    ·omega
    ·have:=hb1.1
     simp only[List.length_append,List.length_cons,List.length_take,List.length_drop];omega
   have hat:at_<L1.length:=by
    have hbl:=hb1.1
    simp only[L1]
    split
    ·rename_i hf
     rcases Nat.lt_or_ge at_ L.length with h|h
     ·exact h
     ·rw[List.getElem?_eq_none (by simpa using h)]at hf;cases hf
    ·simp;omega
   have q8: ∀bx,callMemAft bx H1 [X] (some 29) 4=(bx 4).map (Dl.Rows.tr (aft [X] (some 29))):=fun bx=>aft_low (by omega) (by omega) (by simp)
   have q9: ∀bx,callMemAft bx H1 [X] (some 29) 7=(bx 7).map (Dl.Rows.tr (aft [X] (some 29))):=fun bx=>aft_low (by omega) (by omega) (by simp)
   have q10: ∀bx,callMemAft bx H1 [X] (some 29) 8=(bx 8).map (Dl.Rows.tr (aft [X] (some 29))):=fun bx=>aft_low (by omega) (by omega) (by simp)
   simp +decide only[go_sem,hXlt]
   refine kK (s':=kn 67 [(0,.one (.bx X 2 0 0)),(2,dv (lb inn)),(4,.one (.bx 4 8 0 0)),(7,.one (.bx 7 2 0 0)),(8,.one (.bx 8 3 0 0)),(9,dv (li at_)),(12,dv (.sl 2 (e.senses.map Sns.enc))),(13,dv (li e.senses.length)),(14,dv (li i))]
    (fun k=>if k=4 then some [e.enc.map T.c]else if k=7 then some [s.enc.map T.c]else if k=8 then some [pRow (pt e.id i)]else ixM X L1 j1 k)) ?_ ?_
   ·have hx1: ∀bx,callMemAft bx H1 [X] (some 29) X=some [[.ba 1000 2 0 (putRw (L.map irow) (L.map (·.gloss)) s.gloss at_).length ((putRw (L.map irow) (L.map (·.gloss)) s.gloss at_).length+j1),.c (.fn 121 [])]]:=fun bx=>aft_x (by simp;omega) (fun r hr=>by
     injection hr with hr;subst hr
     intro x hx;rw[List.mem_singleton.1 hx];exact⟨⟨Nat.le_refl _,by omega⟩,trivial,trivial⟩) h1x
    have hk1: ∀bx k,mid k→k≠1000→callMemAft bx H1 [X] (some 29) k=ixM X L jr k:=fun bx k hk hkn=>aft_mid hk (fun e=>hXm (e▸hk)) (by simp;have:=hk.1;omega) (by rw[h1k k hk hkn,carry_mid hk]) (fun r hr=>(hok k r hr).2)
    have hk2: ∀bx,callMemAft bx H1 [X] (some 29) 1000=some (putRw (L.map irow) (L.map (·.gloss)) s.gloss at_++anyRows j1 2):=fun bx=>aft_mid ⟨Nat.le_refl _,by omega⟩ (by omega) (by simp) h1r (fun r hr=>by
     injection hr with hr;subst hr
     refine Rows.mids_append (fun x hx=>?_) (anyRows_mids _ _)
     have hm0: ∀x∈L.map irow,T.MidsAll x:=fun x hx=>rrows_mids hL jr x (List.mem_append_left _ hx)
     unfold putRw at hx
     split at hx
     ·exact hm0 x hx
     ·simp only[List.mem_append,List.mem_cons]at hx
      rcases hx with h|rfl|h
      ·exact hm0 x (List.mem_of_mem_take h)
      ·exact⟨trivial,trivial,trivial⟩
      ·exact hm0 x (List.mem_of_mem_drop h))
    have hout: ∀k r,k≠X→ixM X L jr k=some r→mid k:=fun k r hkX hk=>by
     unfold ixM at hk
     rw[if_neg hkX]at hk
     split at hk
     ·rename_i e;subst e;exact⟨Nat.le_refl _,by omega⟩
     ·simp only[Option.map_eq_some_iff]at hk
      obtain⟨q,hq,rfl⟩:=hk
      have hkq:=List.find?_some hq
      simp only[beq_iff_eq]at hkq
      have h1:=hL.rng q (List.mem_of_find?_eq_some hq)
      have h2:=hL.hB
      exact⟨by omega,by omega⟩
    refine DS.Sub.trans (b:=kn 67 [(0,.one (.bx X 2 0 0)),(2,dv (lb inn)),(4,.one (.bx 4 8 0 0)),(7,.one (.bx 7 2 0 0)),(8,.one (.bx 8 3 0 0)),(9,dv (li at_)),(12,dv (.sl 2 (e.senses.map Sns.enc))),(13,dv (li e.senses.length)),(14,dv (li i))]
     (fun k=>if k=4 then some [e.enc.map T.c]else if k=7 then some [s.enc.map T.c]else if k=8 then some [pRow (pt e.id i)]else if k=1000 then some (putRw (L.map irow) (L.map (·.gloss)) s.gloss at_++anyRows j1 2)
      else if k=X then some [[.ba 1000 2 0 (putRw (L.map irow) (L.map (·.gloss)) s.gloss at_).length ((putRw (L.map irow) (L.map (·.gloss)) s.gloss at_).length+j1),.c (.fn 121 [])]]else ixM X L jr k))
     (kL rfl (by simp +decide only[go_sem,hXlt,hXe,hXe2]) (fun k r hk=>?_)) ?_
    ·by_cases e4:k=4
     ·subst e4;rw[← hk];simp +decide only[go_sem,q8,Ent.enc]
     by_cases e7:k=7
     ·subst e7;rw[← hk];simp +decide only[go_sem,q9,Sns.enc]
     by_cases e8:k=8
     ·subst e8;rw[← hk];simp +decide only[go_sem,q10,Part.enc];rfl
     rw[if_neg e4,if_neg e7,if_neg e8]at hk
     by_cases e1:k=1000
     ·subst e1;rw[if_pos rfl]at hk;rw[← hk];simp +decide only[go_sem,hk2]
     rw[if_neg e1]at hk
     by_cases eX:k=X
     ·subst eX;rw[if_pos rfl]at hk;rw[← hk];simp +decide only[go_sem,hx1]
     rw[if_neg eX]at hk
     have hkm:=hout k r eX hk
     have q:=fun bx=>hk1 bx k hkm e1
     rw[← hk]
     simp +decide only[go_sem,q]
    ·have hX1: ¬(1000:Nat)=X:=by omega
     by_cases hf:(L.map (·.gloss))[at_]?.map (fun q=>cmpS q s.gloss)=some 0
     ·have eL1:L1=L:=by simp only[L1,if_pos hf]
      have ep:putRw (L.map irow) (L.map (·.gloss)) s.gloss at_=L.map irow:=by simp only[putRw,if_pos hf]
      rw[eL1,ep]
      refine kL rfl (by simp +decide only[go_sem]) (fun k r hk=>?_)
      rw[← hk]
      by_cases e4:k=4
      ·subst e4;simp +decide only[go_sem]
      by_cases e7:k=7
      ·subst e7;simp +decide only[go_sem]
      by_cases e8:k=8
      ·subst e8;simp +decide only[go_sem]
      by_cases e1:k=1000
      ·subst e1;simp +decide only[go_sem,ixM_r (X:=X) (Ne.symm hX1)]
      by_cases eX:k=X
      ·subst eX;simp +decide only[go_sem,ixM_x,hXe];simp[e1,hlm]
      ·simp +decide only[go_sem,e4,e7,e8,e1,eX];simp only[ixM,if_neg e1,if_neg eX]
     ·have hbl:=hb1.1
      have eL1:L1=L.take at_++⟨s.gloss,B+i,[],0⟩::L.drop at_:=by simp only[L1,if_neg hf]
      have ep:putRw (L.map irow) (L.map (·.gloss)) s.gloss at_=(L.map irow).take at_++gRow s.gloss::(L.map irow).drop at_:=by simp only[putRw,if_neg hf]
      have hta:((L.map irow).take at_).length=at_:=by simp;omega
      have hrow0:(putRw (L.map irow) (L.map (·.gloss)) s.gloss at_++anyRows j1 2)[at_]? =some (gRow s.gloss):=by
       rw[ep,List.append_assoc,List.getElem?_append_right (by omega),hta,Nat.sub_self];rfl
      refine DS.Sub.trans (sub_zeroAt 1000 at_ 1 (B+i) 3 3 (rows:=putRw (L.map irow) (L.map (·.gloss)) s.gloss at_++anyRows j1 2) (r:=gRow s.gloss) (by simp +decide only[go_sem]) (by omega) hrow0 rfl) ?_
      refine kL rfl (by simp +decide only[go_sem]) (fun k r hk=>?_)
      rw[← hk]
      have hnx: ¬B+i=X:=by have:=hL1.hB;omega
      by_cases e4:k=4
      ·subst e4;simp +decide only[go_sem];rw[if_neg (by omega)]
      by_cases e7:k=7
      ·subst e7;simp +decide only[go_sem];rw[if_neg (by omega)]
      by_cases e8:k=8
      ·subst e8;simp +decide only[go_sem];rw[if_neg (by omega)]
      by_cases e1:k=1000
      ·subst e1
       rw[if_neg e4,if_neg e7,if_neg e8,ixM_r (X:=X) (Ne.symm hX1)]
       simp +decide only[go_sem]
       rw[eL1,ep,List.append_assoc,List.set_append_right _ _ (by omega),hta,Nat.sub_self]
       simp[List.map_take,List.map_drop,irow]
      by_cases eX:k=X
      ·subst eX
       rw[if_neg e4,if_neg e7,if_neg e8,ixM_x]
       simp +decide only[go_sem,e1,e4,e7,e8]
       rw[if_neg (fun e=>hnx e.symm),ep,eL1]
       simp
      ·rw[if_neg e4,if_neg e7,if_neg e8]
       simp +decide only[go_sem,e1,e4,e7,e8,eX]
       by_cases eB:k=B+i
       ·subst eB
        rw[if_pos rfl]
        have:=ixM_k (X:=X) j1 hL1 hXm (r:=⟨s.gloss,B+i,[],0⟩) (by rw[eL1];simp)
        rw[this];rfl
       ·rw[if_neg eB]
        simp only[ixM,if_neg eX,if_neg e1]
        congr 1
        rw[eL1]
        conv=>lhs;rw[← List.take_append_drop at_ L]
        rw[List.find?_append,List.find?_append,List.find?_cons_of_neg (by simpa using fun e=>eB e.symm)]
   ·obtain⟨r1,hr1⟩: ∃r1,L1[at_]? =some r1:=⟨L1[at_],List.getElem?_eq_getElem hat⟩
    have hr1m:=List.mem_of_getElem? hr1
    have hrng:=hL1.rng r1 hr1m
    have hB1:=hL1.hB
    have hok1:=ixM_ok hX hL1 j1
    have hix:=ixM_x X L1 j1
    have hir:ixM X L1 j1 1000=some (L1.map irow++anyRows j1 2):=ixM_r (by omega) L1 j1
    have hik:ixM X L1 j1 r1.k=some (kmem r1):=ixM_k j1 hL1 hXm hr1m
    have hrow:(L1.map irow++anyRows j1 2)[at_]? =some [.c (ls r1.gloss),.ba r1.k 3 0 r1.ps.length (r1.ps.length+r1.j)]:=by
     rw[List.getElem?_append_left (by simpa using hat),List.getElem?_map,hr1];rfl
    have hfg1: ∀(m k:Nat),m<1000→(ixM X L1 j1 k).map (Dl.Rows.tr (fgt m))=ixM X L1 j1 k:=fun m k hm=>hok1.fgt hm k
    have hke: ∀k,k<1000→(r1.k=k)=False:=fun k hk=>by simp;omega
    have hkX:(r1.k=X)=False:=by simp;omega
    (repeat(first|apply kA|apply kB|((first|refine kc (N:=67) ?_|refine kj (N:=67) kq21 ?_|apply kD|apply kE);simp +decide only[go_sem,Ent.enc,Sns.enc,hXe,hXe2,hXlt,hix,hir,hat,hrow,hfg1,hke])))
    have hKm:mid r1.k:=⟨by omega,by omega⟩
    have hr1l:r1.ps.length≤5000:=hL1.lens r1 hr1m
    have g10: ∀r:Ren,r.g r1.k=some r1.k→Dl.Rows.tr r [[.ba r1.k 3 0 r1.ps.length (r1.ps.length+r1.j),.c (.fn 124 [])]]= [[.ba r1.k 3 0 r1.ps.length (r1.ps.length+r1.j),.c (.fn 124 [])]]:=fun r hr=>by
     simp[Rows.tr,T.trAll,T.tr,hr,T.baTo]
    have gk: ∀(ps:List Part) (j:Nat) (r:Ren),r.g r1.k=some r1.k→Dl.Rows.tr r (ps.map pRow++anyRows j 3)=ps.map pRow++anyRows j 3:=fun ps j r _=>by
     rw[Rows.tr_append,anyRows_tr]
     congr 1
     have e:ps.map pRow=(ps.map Part.enc).map (List.map T.c):=by rw[List.map_map];rfl
     rw[e];exact Rows.tr_c r _
    refine dw_join (α:=Nat×Nat) (fun y=>kn 67 [(0,.one (.bx X 2 0 0)),(2,dv (lb inn)),(4,.one (.bx 4 8 0 0)),(7,.one (.bx 7 2 0 0)),(9,dv (li at_)),(10,.one (.bx 10 2 0 0)),(12,dv (.sl 2 (e.senses.map Sns.enc))),(13,dv (li e.senses.length)),(14,dv (li i))]
      (fun k=>if k=4 then some [e.enc.map T.c]else if k=7 then some [s.enc.map T.c]else if k=10 then some [[.ba r1.k 3 0 (turnP inn r1.ps (pt e.id i) y.1).length ((turnP inn r1.ps (pt e.id i) y.1).length+y.2),.c (.fn 124 [])]]
       else if k=r1.k then some ((turnP inn r1.ps (pt e.id i) y.1).map pRow++anyRows y.2 3)else if k=1000 then some (Dl.Rows.tr (fgt r1.k) (L1.map irow++anyRows j1 2))else ixM X L1 j1 k))
     (fun y=>BsOk (bsF r1.ps (pt e.id i)) r1.ps.length y.1) ?_ ?_
    ·have hM:MemOk (carryM 10 [[.ba r1.k 3 0 r1.ps.length (r1.ps.length+r1.j),.c (.fn 124 [])]] r1.k (kmem r1)):=fun k r hk=>by
      unfold carryM at hk
      split at hk
      ·injection hk with hk;subst hk
       exact⟨by omega,fun x hx=>by rw[List.mem_singleton.1 hx];exact⟨hKm,trivial,trivial⟩⟩
      ·split at hk
       ·injection hk with hk;subst hk;exact⟨by omega,kmem_mids r1⟩
       ·cases hk
     apply kG;(simp +decide only[go_sem];rfl)
     ·intro hin
      have hin':inn=true:=by simpa using hin
      have hc:=putP_E (10+NB) r1.k (by omega) (by omega) (by omega) (carryM 10 [[.ba r1.k 3 0 r1.ps.length (r1.ps.length+r1.j),.c (.fn 124 [])]] r1.k (kmem r1)) hM r1.ps r1.j (pt e.id i) (by omega) (carryM_x _ _ _ _) (carryM_k (by omega)) (fun k r hk hkx=>by
       unfold carryM at hk
       rw[if_neg hkx]at hk
       split at hk
       ·injection hk with hk;subst hk
        intro q hq
        rename_i hkk
        unfold kmem
        rw[Rows.tr_append,anyRows_tr]
        congr 1
        have e:r1.ps.map pRow=(r1.ps.map Part.enc).map (List.map T.c):=by rw[List.map_map];rfl
        rw[e];exact Rows.tr_c q _
       ·cases hk)
      (repeat(first|apply kA|apply kB|((first|refine kc (N:=67) ?_|refine kj (N:=67) kq21 ?_|apply kD|apply kE);simp +decide only[go_sem,Part.enc])))
      refine CallC.step (Step.callM (caps:= []) (ns:= [10]) (fun k=>k==r1.k) rfl (by simp +decide only[go_sem]) (DLeL.of_eq (by simp +decide only[go_sem,Part.enc];rfl)) hc (carryM_call (notmid (by omega)) hKm (by simp +decide only[go_sem]) (by simp +decide only[go_sem,hke,hfg1];exact hik) g10 (gk _ _)) ⟨by simp[midM],fun m hm=>by simp at hm;subst hm;simp⟩ ?_)
      rintro r H2 ⟨q,j2,hb2,h2x,h2k,h2m⟩
      have w1: ∀bx,callMemAftM (fun k=>k==r1.k) bx H2 [10] (some 42) 10=some [[.ba r1.k 3 0 (putAt r1.ps (pt e.id i) q).length ((putAt r1.ps (pt e.id i) q).length+j2),.c (.fn 124 [])]]:=fun bx=>aftM_x (by simp) hKm (fun r hr=>by simp[Rows.tr,T.trAll,T.tr,hr,T.baTo]) h2x
      have w2: ∀bx,callMemAftM (fun k=>k==r1.k) bx H2 [10] (some 42) r1.k=some ((putAt r1.ps (pt e.id i) q).map pRow++anyRows j2 3):=fun bx=>aftM_k hKm (by omega) (by simp;omega) (gk _ _) h2k
      have w3: ∀bx k,k≠r1.k→k≠10→k≠42→callMemAftM (fun k=>k==r1.k) bx H2 [10] (some 42) k=(bx k).map (Dl.Rows.tr (aftM (fun k=>k==r1.k) [10] (some 42))):=fun bx k e1 e2 e3=>aftM_out e1 e2 (by simpa using fun e=>e3 e.symm)
      simp +decide only[go_sem]
      refine⟨(q,j2),hb2,kL rfl (by simp +decide only[go_sem,midM,hXlt,hXe,hXe2]) (fun k r hk=>?_)⟩
      have hkA:=aftM_keepX r1.k (m:=42) (by omega)
      have hk1: ¬r1.k=1000:=by omega
      rw[aftCallM_bx]
      by_cases e10:k=10
      ·subst e10
       rw[w1,← hk]
       simp[turnP,hin']
      by_cases eK:k=r1.k
      ·subst eK
       rw[w2,← hk]
       simp[turnP,hin',e10,hke]
      by_cases e4:k=4
      ·subst e4
       rw[w3 _ 4 eK (by omega) (by omega)]
       refine mapSome _ (o:= [e.enc.map T.c]) (by simp +decide only[go_sem,Ent.enc]) (by simp +decide only[go_sem,Ent.enc]) hk
      by_cases e7:k=7
      ·subst e7
       rw[w3 _ 7 eK (by omega) (by omega)]
       refine mapSome _ (o:= [s.enc.map T.c]) (by simp +decide only[go_sem,Sns.enc]) (by simp +decide only[go_sem,Sns.enc]) hk
      by_cases elow:k<1000
      ·have hk':ixM X L1 j1 k=some r:=by
        have e1: ¬k=1000:=by omega
        simpa only[if_neg e4,if_neg e7,if_neg e10,if_neg eK,if_neg e1]using hk
       rw[hok1.low elow]at hk'
       cases hk'
      have hmk: ∀m,m<1000→(k=m)=False:=fun m hm=>by simp;omega
      rw[w3 _ k eK e10 (by omega)]
      by_cases e1:k=1000
      ·subst e1
       refine mapSome _ (o:=L1.map irow++anyRows j1 2) (by simp +decide only[go_sem,hfg1];exact hir) ?_ hk
       rw[rows_fgtK hL1 r1.k j1 hkA (aftM_gK hKm _),if_neg (by omega),if_neg (by omega),if_neg (by omega),if_neg (by omega),if_pos rfl,Rows.tr_append,anyRows_tr]
      ·have hk':ixM X L1 j1 k=some r:=by
        simpa only[if_neg e4,if_neg e7,if_neg e10,if_neg eK,if_neg e1]using hk
       rw[← hk',← ixM_keep hk1 j1 hkA e1]
       congr 1
       simp +decide only[go_sem,hmk,hfg1]
     ·intro hin
      exact absurd (hinn.symm.trans (by simpa using hin)) (by decide)
    ·rintro⟨q,j2⟩ hq
     have hXK:(X=r1.k)=False:=by simp;omega
     have hX1:(X=1000)=False:=by simp;omega
     have hK1:(r1.k=1000)=False:=by simp;omega
     have h1K:(1000=r1.k)=False:=by simp;omega
     have h1X:(1000=X)=False:=by simp;omega
     have hrow2:(Dl.Rows.tr (fgt r1.k) (L1.map irow++anyRows j1 2))[at_]? =some [.c (ls r1.gloss),.c .any]:=by
      unfold Dl.Rows.tr
      rw[List.getElem?_map,hrow]
      simp[T.trAll,T.tr,fgt,T.baTo]
     generalize hRR:Dl.Rows.tr (fgt r1.k) (L1.map irow++anyRows j1 2)=RR at hrow2
     (repeat(first|apply kA|apply kB|((first|refine kc (N:=67) ?_|refine kj (N:=67) kq21 ?_|apply kD|apply kE);simp +decide only[go_sem,hXe,hXe2,hXlt,hXK,hX1,hK1,h1K,h1X,hke,hix,hat,hrow2])))
     let r2:IRow:=⟨r1.gloss,r1.k,turnP inn r1.ps (pt e.id i) q,j2⟩
     have hr13:r1.ps.length≤3000+i:=by
      have hm:=hr1m
      simp only[L1]at hm
      split at hm
      ·exact hls r1 hm
      ·simp only[List.mem_append,List.mem_cons]at hm
       rcases hm with h|rfl|h
       ·exact hls r1 (List.mem_of_mem_take h)
       ·simp
       ·exact hls r1 (List.mem_of_mem_drop h)
     have hps3:(turnP inn r1.ps (pt e.id i) q).length≤3000+i+1:=by
      unfold turnP putAt
      rw[if_pos hinn]
      split
      ·omega
      ·simp;omega
     have hps2:(turnP inn r1.ps (pt e.id i) q).length≤5000:=by omega
     have hL2:IxOk (B+i+1) (L1.set at_ r2):=hL1.set hr1 rfl hps2
     refine kK (s':=kn 67 [(0,.one (.bx X 2 0 0)),(2,dv (lb inn)),(4,.one (.bx 4 8 0 0)),(7,.one (.bx 7 2 0 0)),(12,dv (.sl 2 (e.senses.map Sns.enc))),(13,dv (li e.senses.length)),(14,dv (li i)),(58,dv (lb (((turnP inn r1.ps (pt e.id i) q).length:Int)==0)))]
      (fun k=>if k=4 then some [e.enc.map T.c]else if k=7 then some [s.enc.map T.c]else ixM X (L1.set at_ r2) j1 k)) (kL rfl (by simp +decide only[go_sem]) (fun k r hk=>?_)) ?_
     ·by_cases e4:k=4
      ·subst e4
       rw[← hk]
       simp +decide only[go_sem,Ent.enc]
      by_cases e7:k=7
      ·subst e7
       rw[← hk]
       simp +decide only[go_sem,Sns.enc]
      rw[if_neg e4,if_neg e7]at hk
      by_cases elow:k<1000
      ·rw[(ixM_ok hX hL2 j1).low elow]at hk;cases hk
      have hmk: ∀m,m<1000→(k=m)=False:=fun m hm=>by simp;omega
      rw[ixM_set hXm hL1 hr1 (r2:=r2) rfl,hRR]at hk
      by_cases eK:k=r1.k
      ·subst eK
       rw[if_pos rfl]at hk
       simp +decide only[go_sem,hmk,hK1]
       exact Option.some.inj hk
      by_cases e1:k=1000
      ·subst e1
       rw[if_neg eK,if_pos rfl]at hk
       simp +decide only[go_sem]
       exact Option.some.inj hk
      ·rw[if_neg eK,if_neg e1]at hk
       simp +decide only[go_sem,hmk,e1,eK]
       exact hk
     ·have hV2:viewL (L1.set at_ r2)=(putV (viewL L) s.gloss at_).set at_ (r1.gloss,turnP inn r1.ps (pt e.id i) q):=by
       rw[← hv1];simp[viewL,List.map_set,r2]
      have hg1:(putV (viewL L) s.gloss at_)[at_]? =some (r1.gloss,r1.ps):=by
       rw[← hv1];simp[viewL,hr1]
      have hvg:(viewL L).map (·.1)=L.map (·.gloss):=by simp[viewL]
      have hvl:(viewL L).length=L.length:=by simp[viewL]
      apply kG;(simp +decide only[go_sem];rfl)
      ·intro hz
       exact absurd (by simpa using hz) (turn_ne hinn r1.ps (pt e.id i) q)
      ·intro hz
       have hz': ¬turnP inn r1.ps (pt e.id i) q= []:=by simpa using hz
       (repeat(first|apply kA|apply kB|((first|refine kc (N:=67) ?_|refine kj (N:=67) kq21 ?_|apply kD|apply kE);simp +decide only[go_sem,hw])))
       refine⟨(i+1,L1.set at_ r2,j1),⟨by simp only;omega,hL2,by simp only[List.length_set];omega,fun x hx=>by
        simp only at hx ⊢
        rcases List.mem_or_eq_of_mem_set hx with hx|rfl
        ·have:=hls1 x hx;omega
        ·exact hps3,?_⟩,by simp only;omega,kL rfl (by simp +decide only[go_sem]) (fun k r hk=>?_)⟩
       ·refine⟨viewL L,hV,?_⟩
        rw[hs1]
        refine⟨at_,r1.gloss,r1.ps,q,by rw[hvg,hvl];exact hb1,hg1,hq,?_⟩
        rw[if_neg hz']
        exact hV2
       ·by_cases e7:k=7
        ·subst e7
         have hk':ixM X (L1.set at_ r2) j1 7=some r:=hk
         rw[(ixM_ok hX hL2 j1).low (by omega)]at hk';cases hk'
        simp +decide only[go_sem]
        rw[if_neg e7]
        exact hk
  ·simp
 ·have hd:decide ((i:Int)<(e.senses.length:Int))=false:=by simpa using hge
  have hie:i=e.senses.length:=by omega
  subst hie
  (repeat(first|apply kA|apply kB|((first|refine kc (N:=67) ?_|refine kj (N:=67) kq21 ?_|apply kD|apply kE);simp +decide only[go_sem,hd])))
  apply kG;(simp +decide only[go_sem];rfl)
  ·simp
  intro _
  (repeat(first|apply kA|apply kB|((first|refine kc (N:=67) ?_|refine kj (N:=67) kq21 ?_|apply kD|apply kE);simp +decide only[go_sem])))
  exact⟨L,jr,hV,hL,by rw[if_neg (by omega)],fun k hk=>by rw[if_neg (by omega)]⟩
end Go.Proofs.YtehdkccjaeckhaaGreatDoor.V
namespace Go.Proofs.YtehdkccjaeckhaaGreatDoor.V
open Go.Dl
theorem strLt_iff(a b:ByteArray):strLt a b=true↔a.data.toList<b.data.toList:=by
 unfold strLt;rw[bytesLess_eq,ByteArray.toList_eq,ByteArray.toList_eq];simp
theorem strLt_irrefl(a:ByteArray):strLt a a=false:=by
 cases h:strLt a a with
 | false=>rfl
 | true=>exact absurd ((strLt_iff a a).1 h) (List.lt_irrefl _)
theorem strLt_trans{a b c:ByteArray}(h:strLt a b=true)(k:strLt b c=true):strLt a c=true:=
 (strLt_iff a c).2 (List.lt_trans ((strLt_iff a b).1 h) ((strLt_iff b c).1 k))
theorem strLt_tri{a b:ByteArray}(h:strLt a b=false)(k:strLt b a=false):a=b:=by
 apply Go.WideShapes.bytes_inj
 have h1: ¬a.data.toList<b.data.toList:=fun e=>by rw[(strLt_iff a b).2 e]at h;cases h
 have h2: ¬b.data.toList<a.data.toList:=fun e=>by rw[(strLt_iff b a).2 e]at k;cases k
 exact List.le_antisymm (List.not_lt.1 h2) (List.not_lt.1 h1)
theorem cmpS_lt(a b:ByteArray):cmpS a b<0↔strLt a b=true:=by
 unfold cmpS
 cases strLt a b
 ·simp;split<;>omega
 ·simp
theorem cmpS_eq(a b:ByteArray):cmpS a b=0↔a=b:=by
 unfold cmpS
 cases h:strLt a b
 ·rw[beq_bytes];simp
 ·simp;intro e;subst e;rw[strLt_irrefl]at h;cases h
theorem cmpP_lt{q p:Part}(hq:q.alt=0)(hp:p.alt=0):cmpP q p<0↔q.lt p=true:=by
 simp only[cmpP,firstNZ,cmpI,Part.lt,hq,hp]
 by_cases h1:q.entry<p.entry
 ·simp[h1]
 ·by_cases h2:p.entry<q.entry
  ·have: ¬q.entry=p.entry:=by omega
   simp[h1,h2,this]
  ·have e:q.entry=p.entry:=by omega
   by_cases h3:q.sense<p.sense
   ·simp[e,h3]
   ·by_cases h4:p.sense<q.sense<;>simp[e,h3,h4]
theorem cmpP_eq{q p:Part}(hq:q.alt=0)(hp:p.alt=0):cmpP q p=0↔q=p:=by
 rw[part_ext]
 simp only[cmpP,firstNZ,cmpI,hq,hp]
 by_cases h1:q.entry<p.entry
 ·have: ¬q.entry=p.entry:=by omega
  simp[h1,this]
 ·by_cases h2:p.entry<q.entry
  ·have: ¬q.entry=p.entry:=by omega
   simp[h1,h2,this]
  ·have e:q.entry=p.entry:=by omega
   by_cases h3:q.sense<p.sense
   ·have: ¬q.sense=p.sense:=by omega
    simp[e,h3,this]
   ·by_cases h4:p.sense<q.sense
    ·have: ¬q.sense=p.sense:=by omega
     simp[e,h3,h4,this]
    ·have:q.sense=p.sense:=by omega
     simp[e,this]
theorem Part.lt_iff(a b:Part):a.lt b=true↔a.entry<b.entry∨(a.entry=b.entry∧a.sense<b.sense):=by simp[Part.lt]
theorem Part.lt_irrefl(a:Part):a.lt a=false:=by simp[Part.lt]
theorem Part.lt_trans{a b c:Part}(h:a.lt b=true)(k:b.lt c=true):a.lt c=true:=by
 rw[Part.lt_iff]at *;omega
theorem Part.lt_tri{a b:Part}(ha:a.alt=0)(hb:b.alt=0)(h:a.lt b=false)(k:b.lt a=false):a=b:=by
 rw[part_ext]
 have h1: ¬(a.lt b=true):=by simp[h]
 have h2: ¬(b.lt a=true):=by simp[k]
 rw[Part.lt_iff]at h1 h2
 omega
structure PSorted(ps:List Part):Prop where
 alt: ∀p∈ps,p.alt=0
 pw:ps.Pairwise fun a b=>a.lt b=true
theorem pw_get{α:Type}{R:α→α→Prop}{l:List α}(h:l.Pairwise R){i j:Nat}{a b:α}(hij:i<j)(hi:l[i]? =some a)(hj:l[j]? =some b):R a b:=by
 obtain⟨h1,rfl⟩:=List.getElem?_eq_some_iff.1 hi
 obtain⟨h2,rfl⟩:=List.getElem?_eq_some_iff.1 hj
 exact List.pairwise_iff_getElem.1 h i j h1 h2 hij
theorem split_at{α:Type}{l:List α}{i:Nat}{x:α}(h:l[i]? =some x):l=l.take i++x::l.drop (i+1):=by
 obtain⟨h1,h2⟩:=List.getElem?_eq_some_iff.1 h
 rw[← h2,List.getElem_cons_drop,List.take_append_drop]
theorem lows_bs{ps:List Part}{p:Part}{q:Nat}(h:PSorted ps)(hp:p.alt=0)(hq:BsOk (bsF ps p) ps.length q):
  (∀(j:Nat) x,j<q→ps[j]? =some x→x.lt p=true)∧(∀(j:Nat) x,q≤j→ps[j]? =some x→x.lt p=false):=by
 obtain⟨h1,h2,h3⟩:=hq
 constructor
 ·intro j x hj hx
  obtain⟨y,hy⟩: ∃y,ps[q - 1]? =some y:=⟨ps[q - 1]'(by omega),List.getElem?_eq_getElem (by omega)⟩
  have hy2:y.lt p=true:=by
   have:=h2 (by omega)
   simp only[bsF,hy]at this
   exact(cmpP_lt (h.alt y (List.mem_of_getElem? hy)) hp).1 this
  by_cases e:j=q - 1
  ·subst e;rw[hx]at hy;injection hy with hy;subst hy;exact hy2
  ·exact Part.lt_trans (pw_get h.pw (by omega) hx hy) hy2
 ·intro j x hj hx
  have hjl:j<ps.length:=(List.getElem?_eq_some_iff.1 hx).1
  obtain⟨y,hy⟩: ∃y,ps[q]? =some y:=⟨ps[q]'(by omega),List.getElem?_eq_getElem (by omega)⟩
  have hy2:y.lt p=false:=by
   have:=h3 (by omega)
   simp only[bsF,hy]at this
   cases hc:y.lt p with
   | false=>rfl
   | true=>have:=(cmpP_lt (h.alt y (List.mem_of_getElem? hy)) hp).2 hc;omega
  by_cases e:j=q
  ·subst e;rw[hx]at hy;injection hy with hy;subst hy;exact hy2
  ·have:=pw_get h.pw (show q<j by omega) hy hx
   cases hc:x.lt p with
   | false=>rfl
   | true=>have:=Part.lt_trans this hc;rw[hy2]at this;cases this
theorem putAt_ins{ps:List Part}{p:Part}{q:Nat}(h:PSorted ps)(hp:p.alt=0)(hq:BsOk (bsF ps p) ps.length q):putAt ps p q=ins ps p:=by
 obtain⟨g1,g2⟩:=lows_bs h hp hq
 have hl:lows ps p=q:=lows_eq ps p q g1 hq.1 fun x hx=>g2 q x (Nat.le_refl _) hx
 unfold putAt ins
 rw[hl]
 cases hx:ps[q]? with
 | none=>simp
 | some x=>
  have he:=cmpP_eq (h.alt x (List.mem_of_getElem? hx)) hp
  by_cases e:x=p
  ·subst e
   simp only[Option.map_some,he.2 rfl,if_true]
   obtain⟨h1,h2⟩:=List.getElem?_eq_some_iff.1 hx
   rw[← h2,List.getElem_cons_drop,List.take_append_drop]
  ·have: ¬cmpP x p=0:=fun c=>e (he.1 c)
   simp[this,e]
theorem PSorted.keep{ps:List Part}(h:PSorted ps)(b:Bool)(p:Part):PSorted (keepP b p ps):=
 ⟨fun x hx=>h.alt x (List.mem_filter.1 hx).1,h.pw.filter _⟩
theorem ins_mem{ps:List Part}{p x:Part}(h:x∈ins ps p):x∈ps∨x=p:=by
 unfold ins at h
 rcases List.mem_append.1 h with h|h
 ·exact .inl (List.mem_of_mem_take h)
 ·rcases List.mem_cons.1 h with h|h
  ·exact .inr h
  ·exact .inl (List.mem_of_mem_drop h)
theorem mem_ins{ps:List Part}{p x:Part}(hp:p.alt=0)(h:PSorted ps)(hx:x∈ps∨x=p):x∈ins ps p:=by
 unfold ins
 rcases hx with hx|rfl
 ·split
  ·rename_i he
   by_cases e:x=p
   ·subst e;simp
   ·rw[split_at he]at hx
    exact hx
  ·rw[← List.take_append_drop (lows ps p) ps]at hx
   rcases List.mem_append.1 hx with hx|hx
   ·exact List.mem_append_left _ hx
   ·exact List.mem_append_right _ (List.mem_cons_of_mem _ hx)
 ·simp
theorem lows_spec{ps:List Part}(h:PSorted ps)(p:Part):(∀(j:Nat) x,j<lows ps p→ps[j]? =some x→x.lt p=true)∧(∀(j:Nat) x,lows ps p≤j→ps[j]? =some x→x.lt p=false):=by
 induction ps with
 | nil=>exact⟨fun j x hj=>by simp[lows]at hj,fun j x _ hx=>by simp at hx⟩
 | cons a l ih=>
  have hp:=h.pw
  rw[List.pairwise_cons]at hp
  have hl:PSorted l:=⟨fun x hx=>h.alt x (List.mem_cons_of_mem _ hx),hp.2⟩
  obtain⟨i1,i2⟩:=ih hl
  cases ha:a.lt p with
  | true=>
   have e:lows (a::l) p=lows l p+1:=by simp[lows,ha]
   rw[e]
   constructor
   ·intro j x hj hx
    cases j with
    | zero=>simp at hx;subst hx;exact ha
    | succ j=>exact i1 j x (by omega) (by simpa using hx)
   ·intro j x hj hx
    cases j with
    | zero=>omega
    | succ j=>exact i2 j x (by omega) (by simpa using hx)
  | false=>
   have e:lows (a::l) p=0:=by simp[lows,ha]
   rw[e]
   refine⟨fun j x hj=>by omega,fun j x _ hx=>?_⟩
   cases j with
   | zero=>simp at hx;subst hx;exact ha
   | succ j=>
    have h1:=hp.1 x (List.mem_of_getElem? (i:=j) (by simpa using hx))
    cases hc:x.lt p with
    | false=>rfl
    | true=>have:=Part.lt_trans h1 hc;rw[ha]at this;cases this
theorem PSorted.ins{ps:List Part}(h:PSorted ps){p:Part}(hp:p.alt=0):PSorted (ins ps p):=by
 obtain⟨g1,g2⟩:=lows_spec h p
 refine⟨fun x hx=>(ins_mem hx).elim (h.alt x) (fun e=>e▸hp),?_⟩
 unfold Go.Proofs.YtehdkccjaeckhaaGreatDoor.V.ins
 have hk: ∀x∈ps.drop (if ps[lows ps p]? =some p then lows ps p+1 else lows ps p),p.lt x=true:=fun x hx=>by
  obtain⟨j,hj⟩:=List.getElem?_of_mem hx
  rw[List.getElem?_drop]at hj
  have hxm:=List.mem_of_getElem? hj
  split at hj
  ·rename_i he
   have:=pw_get h.pw (show lows ps p<lows ps p+1+j by omega) he hj
   exact this
  ·rename_i he
   have h1:=g2 _ x (by omega) hj
   cases hc:p.lt x with
   | true=>rfl
   | false=>
    have e:=Part.lt_tri (h.alt x hxm) hp h1 hc
    subst e
    cases j with
    | zero=>exact absurd hj he
    | succ j=>
     obtain⟨hl,_⟩:=List.getElem?_eq_some_iff.1 hj
     have hy:ps[lows ps x]? =some (ps[lows ps x]'(by omega)):=List.getElem?_eq_getElem (by omega)
     have h3:=pw_get h.pw (show lows ps x<lows ps x+(j+1) by omega) hy hj
     rw[g2 _ _ (Nat.le_refl _) hy]at h3;cases h3
 have ht: ∀x∈ps.take (lows ps p),x.lt p=true:=fun x hx=>by
  obtain⟨j,hj⟩:=List.getElem?_of_mem hx
  rw[List.getElem?_take]at hj
  split at hj
  ·rename_i hl;exact g1 j x hl hj
  ·cases hj
 rw[List.pairwise_append]
 refine⟨h.pw.take,List.pairwise_cons.2 ⟨hk,h.pw.drop⟩,fun a ha b hb=>?_⟩
 rcases List.mem_cons.1 hb with rfl|hb
 ·exact ht a ha
 ·exact Part.lt_trans (ht a ha) (hk b hb)
theorem ins_ne(ps:List Part)(p:Part):ins ps p≠ []:=by
 unfold ins;simp
end Go.Proofs.YtehdkccjaeckhaaGreatDoor.V
namespace Go.Proofs.YtehdkccjaeckhaaGreatDoor.V
open Go.Dl
attribute [local irreducible] DW DCalls ECalls wk
theorem srcSl{bx:Mem}{sz:Nat}{d:D}{ys:List (List C)}(hd:d= .one (.c (.sl sz ys))):Src bx sz d (ys.map (List.map T.c)):=by
 subst hd;exact .sl ys
theorem cloneP_E(xs:List (List C))(hz: ∀r∈xs,r.length=3)(hl:xs.length≤1000000):
  ECalls Tryz.prog 122 [dv (.sl 3 xs)] noMem (fun r H'=>∃j,r= .one (.ba 0 3 0 xs.length (xs.length+j))∧H' 0=some (xs.map (List.map T.c)++anyRows j 3)):=by
 refine ecalls (N:=8) (rs:= [.tmp 2]) (by kernel_rfl) Tryz.func122 rfl rfl rfl (by simp) ?_
 cases xs with
 | nil=>
  refine dw_emp (sz:=3) 0 (by simp +decide only[go_sem]) ?_ (fun a cap hcap=>?_)
  ·(repeat(first|apply kA|apply kB|((first|refine kc (N:=8) ?_|apply kD|apply kE);simp +decide only[go_sem])))
   apply kG;(simp +decide only[go_sem];rfl)
   ·intro _
    (repeat(first|apply kA|apply kB|((first|refine kc (N:=8) ?_|apply kD|apply kE);simp +decide only[go_sem])))
    refine kK (sub_zero 2 0 3 (.inl (by simp +decide only[go_sem]))) ?_
    apply kF;simp +decide only[go_sem]
    exact⟨0,rfl,rfl⟩
   ·simp
  ·(repeat(first|apply kA|apply kB|((first|refine kc (N:=8) ?_|apply kD|apply kE);simp +decide only[go_sem])))
   apply kG;(simp +decide only[go_sem];rfl)
   ·simp
   intro _
   apply kD
   simp +decide only[go_sem]
   refine kK (s':=kn 8 [(0,dv (.sl 3 []))] noMem) (kL rfl ⟨.inr (by simp +decide only[go_sem];exact DLe.emp 3 hcap),trivial⟩ (by simp[noMem])) ?_
   apply kA
   refine dw_regM (N:=8) [.hand] rfl (by kernel_rfl) ?_
   simp +decide only[go_sem]
   refine StepC.mk (Step.buildNone (sz:=3) rfl rfl (by simp +decide only[go_sem]) ?_)
   simp +decide only[go_sem]
   refine StepC.mk (Step.appendList (n:=5) (sz:=3) (by_:=24) (rows:= []) (j:=0) (ys:= []) rfl rfl (by simp +decide only[go_sem]) (by simp +decide only[go_sem]) (by simp +decide only[go_sem]) (by simp[RowsSz]) (srcSl (ys:= []) (by simp +decide only[go_sem])) (by simp) ?_)
   intro j'
   simp +decide only[go_sem]
   refine kK (sub_mv 7 0 (by omega)) ?_
   apply kF;simp +decide only[go_sem]
   exact⟨j',rfl,rfl⟩
 | cons x xs=>
  (repeat(first|apply kA|apply kB|((first|refine kc (N:=8) ?_|apply kD|apply kE);simp +decide only[go_sem])))
  apply kG;(simp +decide only[go_sem];rfl)
  ·simp
  intro _
  apply kD
  simp +decide only[go_sem]
  apply kA
  refine dw_regM (N:=8) [.hand] rfl (by kernel_rfl) ?_
  simp +decide only[go_sem]
  refine StepC.mk (Step.buildNone (sz:=3) rfl rfl (by simp +decide only[go_sem]) ?_)
  simp +decide only[go_sem]
  refine StepC.mk (Step.appendList (n:=5) (sz:=3) (by_:=24) (rows:= []) (j:=0) (ys:=(x::xs).map (List.map T.c)) rfl rfl (by simp +decide only[go_sem]) (by simp +decide only[go_sem]) (by simp +decide only[go_sem]) (by simp[RowsSz]) (srcSl (by simp +decide only[go_sem])) (by simp only[List.length_map,List.length_nil];omega) ?_)
  intro j'
  simp +decide only[go_sem]
  refine kK (sub_mv 7 0 (by omega)) ?_
  apply kF;simp +decide only[go_sem]
  exact⟨j',by simp,by simp⟩
end Go.Proofs.YtehdkccjaeckhaaGreatDoor.V
namespace Go.Proofs.YtehdkccjaeckhaaGreatDoor
abbrev kpn23:List (Nat×Go.Dl.Mode):= [(0,.blind),(1,.blind),(2,.blind),(3,.blind),(4,.blind),(6,.blind),(5,.look [25,27]),(7,.look [25,27]),(8,.light),(9,.light),(10,.fresh),(11,.light),(12,.fresh),(13,.step),(14,.light),(15,.light),(16,.light),(17,.step)]
abbrev kq22:Nat→List (Nat×Go.Dl.Mode):=fun n=>match n with|5=>kpn23|_=> []
end Go.Proofs.YtehdkccjaeckhaaGreatDoor
namespace Go.Proofs.YtehdkccjaeckhaaGreatDoor.V
open Go.Dl
attribute [local irreducible] DW DCalls ECalls wk
theorem ixM_mids{X B:Nat}{L:List IRow}(h:IxOk B L)(jr:Nat): ∀k r,ixM X L jr k=some r→Dl.Rows.Mids r:=fun k r hk=>by
 have hNB:=NB_big
 unfold ixM at hk
 split at hk
 ·injection hk with hk;subst hk
  intro x hx
  rw[List.mem_singleton.1 hx]
  exact⟨⟨Nat.le_refl _,by omega⟩,trivial,trivial⟩
 ·split at hk
  ·injection hk with hk;subst hk;exact rrows_mids h jr
  ·simp only[Option.map_eq_some_iff]at hk
   obtain⟨q,hq,rfl⟩:=hk
   exact kmem_mids q
theorem ixM_tr{X B:Nat}{L:List IRow}(h:IxOk B L)(jr:Nat){r:Ren}(hr:r.Keeps)(k:Nat):(ixM X L jr k).map (Dl.Rows.tr r)=ixM X L jr k:=by
 cases hc:ixM X L jr k with
 | none=>rfl
 | some x=>rw[Option.map_some,Rows.tr_mids hr (ixM_mids h jr k x hc)]
theorem IxOk.snoc{k:Nat}{L:List IRow}(h:IxOk (1001+k) L)(hk:k≤4000)(hl:L.length≤4000)(g:ByteArray)(ps:List Part)(j:Nat)(hp:ps.length≤5000):IxOk (1001+(k+1)) (L++ [⟨g,1001+k,ps,j⟩]):=by
 refine⟨by omega,?_,fun r hr=>?_,by simp;omega,fun r hr=>?_⟩
 ·rw[List.map_append,List.nodup_append]
  refine⟨h.nd,by simp,fun a ha b hb=>?_⟩
  obtain⟨r,hr,rfl⟩:=List.mem_map.1 ha
  have:=(h.rng r hr).2
  simp at hb;omega
 ·rcases List.mem_append.1 hr with hr|hr
  ·have:=h.rng r hr;omega
  ·rw[List.mem_singleton.1 hr];simp only;omega
 ·rcases List.mem_append.1 hr with hr|hr
  ·exact h.lens r hr
  ·rw[List.mem_singleton.1 hr];exact hp
theorem irows_tr{B:Nat}{L:List IRow}(h:IxOk B L){r:Ren}(hr: ∀k,1001≤k→k<B→r.g k=some k):Dl.Rows.tr r (L.map irow)=L.map irow:=by
 unfold Dl.Rows.tr
 rw[List.map_map]
 refine List.map_congr_left fun x hx=>?_
 have:=h.rng x hx
 simp only[Function.comp,irow,T.trAll,T.tr,hr x.k this.1 this.2,T.baTo]
theorem kmem_tr(q:IRow)(r:Ren):Dl.Rows.tr r (kmem q)=kmem q:=by
 unfold kmem
 rw[Rows.tr_append,anyRows_tr]
 congr 1
 have e:q.ps.map pRow=(q.ps.map Part.enc).map (List.map T.c):=by rw[List.map_map];rfl
 rw[e];exact Rows.tr_c r _
theorem ixM_any{X k:Nat}{L:List IRow}{jr:Nat}(r:Ren)(h1:k≠X)(h2:k≠1000):(ixM X L jr k).map (Dl.Rows.tr r)=ixM X L jr k:=by
 simp only[ixM,if_neg h1,if_neg h2]
 cases L.find? fun q=>q.k==k with
 | none=>rfl
 | some q=>simp only[Option.map_some,kmem_tr]
theorem aftN_new(bx H':Mem)(m:Nat):callMemAftM noMid bx H' [] (some m) m=(H' 0).map (Dl.Rows.tr (usfM noMid [] (some m))):=by simp[callMemAftM]
theorem aftN_out(bx H':Mem){m k:Nat}(h:m≠k):callMemAftM noMid bx H' [] (some m) k=(bx k).map (Dl.Rows.tr (aftM noMid [] (some m))):=by simp[callMemAftM,h,not_noMid]
abbrev vRow(r:Row):VRow:=(r.gloss,r.senses)
theorem open_E(rows:List Row)(hl:rows.length≤3000)(hls: ∀r∈rows,r.senses.length≤3000):
  ECalls Tryz.prog 92 [dv (.sl 2 (rows.map Row.enc))] noMem
   (fun r H'=>r= .one (.bx 0 2 0 0)∧∃L jr,viewL L=rows.map vRow∧IxOk (1001+rows.length) L∧H' 0=ixM 0 L jr 0∧∀k,mid k→H' k=ixM 0 L jr k):=by
 have hNB:=NB_big
 refine ecalls (N:=34) (rs:= [.tmp 2]) (by kernel_rfl) Tryz.func92 rfl rfl rfl (by simp) ?_
 (repeat(first|apply kA|apply kB|((first|refine kc (N:=34) ?_|refine kj (N:=34) kq22 ?_|apply kD|apply kE);simp +decide only[go_sem])))
 refine kK (sub_zeroAt 8 0 0 1000 2 2 (rows:= [[.ex 2 [],.c (.fn 121 [])]]) (r:= [.ex 2 [],.c (.fn 121 [])]) (by simp +decide only[go_sem]) (by omega) rfl rfl) ?_
 refine dw_rng rows (fun k (x:List IRow×Nat)=>kn 34 [(3,.one (.bx 8 2 0 0)),(9,dv (.sl 2 (rows.map Row.enc))),(10,dv (li rows.length)),(11,dv (li k))] (ixM 8 x.1 x.2))
  (fun k x=>x.1.length=k∧viewL x.1=(rows.take k).map vRow∧IxOk (1001+k) x.1) ([],0) (by simp[maxLen];omega) ?_ ⟨rfl,rfl,by omega,by simp,by simp,by simp,by simp⟩ ?_ ?_
 ·refine kL rfl (by simp +decide only[go_sem]) (fun k r hk=>?_)
  rw[← hk]
  simp only[ixM,List.find?_nil]
  by_cases e8:k=8
  ·subst e8;simp +decide only[go_sem]
  by_cases e1:k=1000
  ·subst e1;simp +decide only[go_sem]
  ·simp +decide only[go_sem,e8,e1]
 ·rintro k x ⟨L,jr⟩ hx hk hm ht hd hw ⟨h1,h2,h3⟩
  simp only at h1 h2 h3
  have hfg: ∀(m k:Nat),m<1000→(ixM 8 L jr k).map (Dl.Rows.tr (fgt m))=ixM 8 L jr k:=fun m k hm=>ixM_tr h3 jr (keeps_fgt (notmid hm)) k
  have hix:=ixM_x 8 L jr
  have hir:ixM 8 L jr 1000=some (L.map irow++anyRows jr 2):=ixM_r (by omega) L jr
  (repeat'(first|apply kA|apply kB|((first|refine kc (N:=34) ?_|refine kj (N:=34) kq22 ?_|apply kD|apply kE);simp +decide only[go_sem,hd,hx,Row.enc,hfg,hix])|(apply kG;(simp +decide only[go_sem,hd,hx,Row.enc,hfg,hix];rfl);all_goals(intro hcnd;try exact kz hcnd))))
  have hxs:=hls x hm
  refine CallC.new (caps:= []) (cloneP_E (x.senses.map Part.enc) (by simp[Part.enc]) (by simp;omega)) (by simp +decide only[go_sem]) (DLeL.of_eq (by simp +decide only[go_sem])) ⟨by simp,by simp⟩ ?_
  rintro r H1 ⟨j1,rfl,hH1⟩
  have n1: ∀bx,callMemAftM noMid bx H1 [] (some 25) 25=some ((x.senses.map Part.enc).map (List.map T.c)++anyRows j1 3):=fun bx=>by
   rw[aftN_new,hH1,Option.map_some,Rows.tr_append,anyRows_tr,Rows.tr_c]
  have n2: ∀bx k,k≠25→callMemAftM noMid bx H1 [] (some 25) k=(bx k).map (Dl.Rows.tr (aftM noMid [] (some 25))):=fun bx k h=>aftN_out bx H1 (Ne.symm h)
  have n3:=fun bx=>n2 bx 8 (by omega)
  have n4:=fun bx=>n2 bx 1000 (by omega)
  have tL: ∀r:Ren,(∀q,1001≤q→q<1001+k→r.g q=some q)→Dl.Rows.tr r (L.map irow)=L.map irow:=fun r hr=>irows_tr h3 hr
  have t1:=tL (aftM noMid [] (some 25)) (fun q h1 h2=>by simp[aftM,not_noMid];omega)
  have t2:=tL (fgt 27) (fun q h1 h2=>by simp[fgt];omega)
  have t3:=tL (fgts [1000,28]) (fun q h1 h2=>by simp[fgts,show ¬q=1000 by omega,show ¬q=28 by omega])
  have t4:=tL (mvr 28 1000) (fun q h1 h2=>by simp[mvr,show ¬q=1000 by omega,show ¬q=28 by omega])
  have t0:=tL (fgt 5) (fun q h1 h2=>by simp[fgt];omega)
  obtain⟨K,hK⟩: ∃K,K=1001+k:=⟨_,rfl⟩
  have t5:=tL (mvr 25 K) (fun q h1 h2=>by simp[mvr,show ¬q=25 by omega,show ¬q=K by omega])
  simp +decide only[go_sem,not_noMid]
  refine StepC.mk (Step.appendList (n:=1000) (sz:=2) (by_:=40) (rows:=L.map irow) (j:=jr) (ys:= [[T.c (ls x.gloss),T.ba 25 3 0 x.senses.length (x.senses.length+j1)]]) rfl rfl (by simp +decide only[go_sem]) (by simp +decide only[go_sem,not_noMid]) (by simp +decide only[go_sem,n4,hfg,hir,t1,t2,t0]) (irow_sz L) (srcOne (n:=27) (by simp +decide only[go_sem]) (by simp +decide only[go_sem]) rfl) (by simp;omega) ?_)
  intro j2
  simp +decide only[go_sem,not_noMid,n3,hix]
  (repeat'(first|apply kA|apply kB|((first|refine kc (N:=34) ?_|refine kj (N:=34) kq22 ?_|apply kD|apply kE);simp +decide only[go_sem,hw])|(apply kG;(simp +decide only[go_sem,hw];rfl);all_goals(intro hcnd;try exact kz hcnd))))
  have h3':IxOk (1001+(k+1)) (L++ [⟨x.gloss,K,x.senses,j1⟩]):=hK▸h3.snoc (by omega) (by omega) x.gloss x.senses j1 (by omega)
  have hne: ∀m,m<1001→(K=m)=False:=fun m hm=>by simp;omega
  have hne2: ∀m,m<1001→(m=K)=False:=fun m hm=>by simp;omega
  have hk1:(1000=K)=False:=hne2 1000 (by omega)
  refine⟨(L++ [⟨x.gloss,K,x.senses,j1⟩],j2),⟨by simp[h1],?_,h3'⟩,DS.Sub.trans (sub_mv 28 1000 (by omega)) (DS.Sub.trans (sub_mv 25 K (by omega)) (kL rfl (by simp +decide only[go_sem,hne,hne2]) (fun q r hq=>?_)))⟩
  ·simp only[viewL]at h2 ⊢
   rw[ht,List.map_append,List.map_append,h2];rfl
  ·simp only at hq
   by_cases e8:q=8
   ·subst e8
    rw[ixM_x]at hq
    rw[← hq]
    simp +decide only[go_sem,hne,hne2,hk1,List.length_append]
   by_cases e1:q=1000
   ·subst e1
    rw[ixM_r (by omega)]at hq
    rw[← hq]
    simp +decide only[go_sem,hne,hne2,hk1,t3,t4,t5,List.map_append,List.append_assoc,irow]
   by_cases eK:q=K
   ·rw[eK]at hq ⊢
    have:=ixM_k (X:=8) j2 h3' (fun h=>by have:=h.1;omega) (r:=⟨x.gloss,K,x.senses,j1⟩) (by simp)
    rw[this]at hq
    rw[← hq]
    simp +decide only[go_sem,hne,n1]
    simp[kmem]
   ·have hq2:ixM 8 L jr q=some r:=by
     rw[← hq]
     simp only[ixM,if_neg e8,if_neg e1,List.find?_append]
     rw[List.find?_cons_of_neg (by simpa using fun e=>eK e.symm)]
     simp
    have hq1:1001≤q:=by
     simp only[ixM,if_neg e8,if_neg e1,Option.map_eq_some_iff]at hq2
     obtain⟨y,hy,_⟩:=hq2
     have h5:=List.find?_some hy
     simp only[beq_iff_eq]at h5
     have:=h3.rng y (List.mem_of_find?_eq_some hy)
     omega
    have hqe: ∀m,m<1001→(q=m)=False:=fun m hm=>by simp;omega
    have hq0:(q=1000)=False:=hqe 1000 (by omega)
    have n5:=fun bx=>n2 bx q (by omega)
    have a1: ∀r,(ixM 8 L jr q).map (Dl.Rows.tr r)=ixM 8 L jr q:=fun r=>ixM_any r e8 e1
    simp +decide only[go_sem,hqe,hq0,eK,n5,a1]
    exact hq2
 ·rintro⟨L,jr⟩ hd ⟨h1,h2,h3⟩
  simp only at h1 h2 h3
  have hkp:(mvr 8 0).Keeps:=keeps_mvr (notmid (by omega)) (notmid (by omega))
  (repeat'(first|apply kA|apply kB|((first|refine kc (N:=34) ?_|refine kj (N:=34) kq22 ?_|apply kD|apply kE);simp +decide only[go_sem,hd])|(apply kG;(simp +decide only[go_sem,hd];rfl);all_goals(intro hcnd;try exact kz hcnd))))
  refine kK (sub_mv 8 0 (by omega)) ?_
  apply kF;simp +decide only[go_sem]
  refine⟨L,jr,by rw[h2,List.take_length],h3,?_,fun k hk=>?_⟩
  ·rw[ixM_tr h3 jr hkp,ixM_x,ixM_x]
  ·rw[if_neg (by omega),if_neg (by omega),ixM_tr h3 jr hkp]
   simp only[ixM,if_neg (show ¬k=8 by omega),if_neg (show ¬k=0 by omega)]
end Go.Proofs.YtehdkccjaeckhaaGreatDoor.V
namespace Go.Proofs.YtehdkccjaeckhaaGreatDoor.V
open Go.Dl
structure RGood(l:List Row):Prop where
 pw:l.Pairwise fun a b=>strLt a.gloss b.gloss=true
 each: ∀r∈l,PSorted r.senses
 ne: ∀r∈l,r.senses≠ []
theorem rows_bs{l:List Row}{g:ByteArray}{i:Nat}(h:l.Pairwise fun a b=>strLt a.gloss b.gloss=true)(hq:BsOk (bsG (l.map (·.gloss)) g) l.length i):
  (∀(j:Nat) x,j<i→l[j]? =some x→strLt x.gloss g=true)∧(∀(j:Nat) x,i≤j→l[j]? =some x→strLt x.gloss g=false):=by
 obtain⟨h1,h2,h3⟩:=hq
 have at_: ∀(j:Nat) x,l[j]? =some x→bsG (l.map (·.gloss)) g j=cmpS x.gloss g:=fun j x hx=>by simp[bsG,hx]
 constructor
 ·intro j x hj hx
  obtain⟨y,hy⟩: ∃y,l[i - 1]? =some y:=⟨l[i - 1]'(by omega),List.getElem?_eq_getElem (by omega)⟩
  have hy2:strLt y.gloss g=true:=by
   have:=h2 (by omega)
   rw[at_ _ y hy]at this
   exact(cmpS_lt _ _).1 this
  by_cases e:j=i - 1
  ·subst e;rw[hx]at hy;injection hy with hy;subst hy;exact hy2
  ·exact strLt_trans (pw_get h (by omega) hx hy) hy2
 ·intro j x hj hx
  have hjl:j<l.length:=(List.getElem?_eq_some_iff.1 hx).1
  obtain⟨y,hy⟩: ∃y,l[i]? =some y:=⟨l[i]'(by omega),List.getElem?_eq_getElem (by omega)⟩
  have hy2:strLt y.gloss g=false:=by
   have:=h3 (by omega)
   rw[at_ _ y hy]at this
   cases hc:strLt y.gloss g with
   | false=>rfl
   | true=>have:=(cmpS_lt _ _).2 hc;omega
  by_cases e:j=i
  ·subst e;rw[hx]at hy;injection hy with hy;subst hy;exact hy2
  ·have:=pw_get h (show i<j by omega) hy hx
   cases hc:strLt x.gloss g with
   | false=>rfl
   | true=>have:=strLt_trans this hc;rw[hy2]at this;cases this
theorem lowR_bs{l:List Row}{g:ByteArray}{i:Nat}(h:l.Pairwise fun a b=>strLt a.gloss b.gloss=true)(hq:BsOk (bsG (l.map (·.gloss)) g) l.length i):lowR l g=i:=by
 obtain⟨g1,g2⟩:=rows_bs h hq
 exact lowR_eq l g i g1 hq.1 fun x hx=>g2 i x (Nat.le_refl _) hx
theorem set_split{α:Type}{l:List α}{i:Nat}{x:α}(y:α)(h:l[i]? =some x):l.set i y=l.take i++y::l.drop (i+1):=
 List.set_eq_take_append_cons_drop.trans (by rw[if_pos (List.getElem?_eq_some_iff.1 h).1])
theorem vfst(l:List Row):(l.map vRow).map (·.1)=l.map (·.gloss):=by simp
theorem ps_nil:PSorted []:=⟨fun p hp=>by simp at hp,.nil⟩
theorem take_len{α:Type}{l:List α}{i:Nat}(h:i≤l.length):(l.take i).length=i:=by simp;omega
theorem step_put{l:List Row}{g:ByteArray}{p:Part}{V':List VRow}(h:RGood l)(hp:p.alt=0)(hs:StepV g p true (l.map vRow) V'):V'=(putR l g p).map vRow:=by
 obtain⟨i,g1,ps,q,hb,hg,hq,hV⟩:=hs
 rw[vfst,List.length_map]at hb
 have hlow:=lowR_bs h.pw hb
 have hil:=hb.1
 unfold putR atR skipR
 rw[hlow]
 unfold putV at hg hV
 rw[vfst]at hg hV
 rw[List.getElem?_map]at hg hV
 cases hx:l[i]? with
 | none=>
  rw[hx]at hg hV
  simp only[Option.map_none,reduceCtorEq,if_false]at hg hV
  rw[List.getElem?_append_right (by simp;omega),take_len (by simpa using hil),Nat.sub_self]at hg
  simp only[List.getElem?_cons_zero,Option.some.injEq,Prod.mk.injEq]at hg
  obtain⟨rfl,rfl⟩:=hg
  simp only[turnP,if_true,putAt_ins ps_nil hp hq,ins_ne,if_false]at hV
  rw[hV,List.set_append_right _ _ (by simp;omega),take_len (by simpa using hil),Nat.sub_self]
  simp[List.map_take,List.map_drop]
 | some r=>
  rw[hx]at hg hV
  by_cases e:r.gloss=g
  ·have he:(r.gloss==g)=true:=by rw[beq_bytes];simpa using e
   simp only[Option.map_some,(cmpS_eq r.gloss g).2 e,if_true]at hg hV
   rw[List.getElem?_map,hx]at hg
   simp only[Option.map_some,Option.some.injEq,Prod.mk.injEq]at hg
   obtain⟨rfl,rfl⟩:=hg
   simp only[turnP,if_true,putAt_ins (h.each r (List.mem_of_getElem? hx)) hp hq,ins_ne,if_false]at hV
   rw[hV,set_split (x:=vRow r) _ (by rw[List.getElem?_map,hx];rfl)]
   simp[he,List.map_take,List.map_drop]
  ·have he:(r.gloss==g)=false:=by rw[beq_bytes];simpa using e
   have hc: ¬cmpS r.gloss g=0:=fun c=>e ((cmpS_eq _ _).1 c)
   simp only[Option.map_some,Option.some.injEq,hc,if_false]at hg hV
   rw[List.getElem?_append_right (by simp;omega),take_len (by simpa using hil),Nat.sub_self]at hg
   simp only[List.getElem?_cons_zero,Option.some.injEq,Prod.mk.injEq]at hg
   obtain⟨rfl,rfl⟩:=hg
   simp only[turnP,if_true,putAt_ins ps_nil hp hq,ins_ne,if_false]at hV
   rw[hV,List.set_append_right _ _ (by simp;omega),take_len (by simpa using hil),Nat.sub_self]
   simp[he,List.map_take,List.map_drop]
theorem lowR_spec{l:List Row}(h:l.Pairwise fun a b=>strLt a.gloss b.gloss=true)(g:ByteArray):(∀(j:Nat) x,j<lowR l g→l[j]? =some x→strLt x.gloss g=true)∧(∀(j:Nat) x,lowR l g≤j→l[j]? =some x→strLt x.gloss g=false):=by
 induction l with
 | nil=>exact⟨fun j x hj=>by simp[lowR]at hj,fun j x _ hx=>by simp at hx⟩
 | cons a l ih=>
  rw[List.pairwise_cons]at h
  obtain⟨i1,i2⟩:=ih h.2
  cases ha:strLt a.gloss g with
  | true=>
   have e:lowR (a::l) g=lowR l g+1:=by simp[lowR,ha]
   rw[e]
   constructor
   ·intro j x hj hx
    cases j with
    | zero=>simp at hx;subst hx;exact ha
    | succ j=>exact i1 j x (by omega) (by simpa using hx)
   ·intro j x hj hx
    cases j with
    | zero=>omega
    | succ j=>exact i2 j x (by omega) (by simpa using hx)
  | false=>
   have e:lowR (a::l) g=0:=by simp[lowR,ha]
   rw[e]
   refine⟨fun j x hj=>by omega,fun j x _ hx=>?_⟩
   cases j with
   | zero=>simp at hx;subst hx;exact ha
   | succ j=>
    have h1:=h.1 x (List.mem_of_getElem? (i:=j) (by simpa using hx))
    cases hc:strLt x.gloss g with
    | false=>rfl
    | true=>have:=strLt_trans h1 hc;rw[ha]at this;cases this
theorem atR_gloss(l:List Row)(g:ByteArray):(atR l g).gloss=g:=by
 unfold atR
 split
 ·split
  ·rename_i r _ he;rw[beq_bytes]at he;simpa using he
  ·rfl
 ·rfl
theorem atR_good{l:List Row}(h:RGood l)(g:ByteArray):PSorted (atR l g).senses:=by
 unfold atR
 split
 ·split
  ·rename_i r hr _;exact h.each r (List.mem_of_getElem? hr)
  ·exact ps_nil
 ·exact ps_nil
theorem putR_mem{l:List Row}{g:ByteArray}{p:Part}{r:Row}(h:r∈putR l g p):r∈l∨r=⟨(atR l g).gloss,ins (atR l g).senses p⟩:=by
 unfold putR at h
 rcases List.mem_append.1 h with h|h
 ·exact .inl (List.mem_of_mem_take h)
 ·rcases List.mem_cons.1 h with h|h
  ·exact .inr h
  ·exact .inl (List.mem_of_mem_drop h)
theorem RGood.put{l:List Row}(h:RGood l)(g:ByteArray){p:Part}(hp:p.alt=0):RGood (putR l g p):=by
 refine⟨?_,fun r hr=>?_,fun r hr=>?_⟩
 ·obtain⟨g1,g2⟩:=lowR_spec h.pw g
  unfold putR
  have hk: ∀x∈l.drop (skipR l g),strLt g x.gloss=true:=fun x hx=>by
   obtain⟨j,hj⟩:=List.getElem?_of_mem hx
   rw[List.getElem?_drop]at hj
   have aux: ∀k,lowR l g≤k→l[k]? =some x→x.gloss≠g→strLt g x.gloss=true:=fun k hk hx hne=>by
    have h1:=g2 k x hk hx
    cases hc:strLt g x.gloss with
    | true=>rfl
    | false=>exact absurd (strLt_tri h1 hc) hne
   unfold skipR at hj
   split at hj
   ·rename_i r hr
    split at hj
    ·rename_i he
     have e:r.gloss=g:=by rw[beq_bytes]at he;simpa using he
     have h2:=pw_get h.pw (show lowR l g<lowR l g+1+j by omega) hr hj
     rw[← e];exact h2
    ·rename_i he
     have e: ¬r.gloss=g:=by rw[beq_bytes]at he;simpa using he
     refine aux _ (by omega) hj fun e2=>?_
     cases j with
     | zero=>rw[Nat.add_zero,hr]at hj;injection hj with hj;subst hj;exact e e2
     | succ j=>
      have h2:=pw_get h.pw (show lowR l g<lowR l g+(j+1) by omega) hr hj
      rw[e2,g2 _ r (Nat.le_refl _) hr]at h2;cases h2
   ·rename_i hn
    obtain⟨hl,_⟩:=List.getElem?_eq_some_iff.1 hj
    rw[List.getElem?_eq_none_iff]at hn
    omega
  have ht: ∀x∈l.take (lowR l g),strLt x.gloss g=true:=fun x hx=>by
   obtain⟨j,hj⟩:=List.getElem?_of_mem hx
   rw[List.getElem?_take]at hj
   split at hj
   ·rename_i hl;exact g1 j x hl hj
   ·cases hj
  rw[List.pairwise_append]
  refine⟨h.pw.take,List.pairwise_cons.2 ⟨fun x hx=>by simp only[atR_gloss];exact hk x hx,h.pw.drop⟩,fun a ha b hb=>?_⟩
  rcases List.mem_cons.1 hb with rfl|hb
  ·simp only[atR_gloss];exact ht a ha
  ·exact strLt_trans (ht a ha) (hk b hb)
 ·rcases putR_mem hr with hr|rfl
  ·exact h.each r hr
  ·exact(atR_good h g).ins hp
 ·rcases putR_mem hr with hr|rfl
  ·exact h.ne r hr
  ·exact ins_ne _ _
theorem RGood.take{l:List Row}(h:RGood l)(g:ByteArray)(p:Part):RGood (takeR l g p):=by
 refine⟨?_,fun r hr=>?_,fun r hr=>?_⟩
 ·unfold takeR
  refine List.Pairwise.filter _ ?_
  rw[List.pairwise_map]
  exact h.pw
 ·unfold takeR at hr
  have:=(List.mem_filter.1 hr).1
  obtain⟨x,hx,rfl⟩:=List.mem_map.1 this
  exact(h.each x hx).keep _ _
 ·unfold takeR at hr
  have:=(List.mem_filter.1 hr).2
  intro e;simp[e]at this
end Go.Proofs.YtehdkccjaeckhaaGreatDoor.V
namespace Go.Proofs.YtehdkccjaeckhaaGreatDoor.V
open Go.Dl
attribute [local irreducible] DW DCalls ECalls wk
theorem steps_put{l:List Row}(h:RGood l)(id:Int)(ss:List Sns): ∀(k:Nat) (V':List VRow),StepsV id true ss k (l.map vRow) V'→V'=(putsN l id ss k).map vRow
 | 0,V',hs=>hs
 | k+1,V',hs=>by
  obtain⟨V1,h1,h2⟩:=hs
  have e:=steps_put h id ss k V1 h1
  subst e
  have hg: ∀k,RGood (putsN l id ss k):=fun k=>by
   induction k with
   | zero=>exact h
   | succ k ih=>simp only[putsN];split;exact ih.put _ rfl;exact ih
  simp only[putsN]
  split at h2
  ·rename_i s hs;simp only[hs];exact step_put (hg k) rfl h2
  ·rename_i hs;simp only[hs];exact h2
theorem puts_good{l:List Row}(h:RGood l)(id:Int)(ss:List Sns): ∀k,RGood (putsN l id ss k)
 | 0=>h
 | k+1=>by simp only[putsN];split;exact(puts_good h id ss k).put _ rfl;exact puts_good h id ss k
theorem RGood.nil:RGood []:=⟨.nil,fun r h=>by simp at h,fun r h=>by simp at h⟩
theorem build_good(l:List Ent): ∀k,RGood (buildN l k)
 | 0=>RGood.nil
 | k+1=>by simp only[buildN];split;exact puts_good (build_good l k) _ _ _;exact build_good l k
theorem build_okc{l:List Ent}{c:Nat}(hs: ∀e∈l,e.senses.length≤c): ∀k,RowsOk (c*k) (buildN l k)
 | 0=>⟨by simp[buildN],fun r hr=>by simp[buildN]at hr⟩
 | k+1=>by
  simp only[buildN]
  split
  ·rename_i e he
   have:=hs e (List.mem_of_getElem? he)
   exact(putsN_ok (build_okc hs k) _ _ _).mono (by rw[Nat.mul_add];omega)
  ·exact(build_okc hs k).mono (by rw[Nat.mul_add];omega)
theorem view_ok{n:Nat}{L:List IRow}{rows:List Row}(h:viewL L=rows.map vRow)(hr:RowsOk n rows):L.length≤n∧∀r∈L,r.ps.length≤n:=by
 have hl:L.length=rows.length:=by have:=congrArg List.length h;simpa[viewL]using this
 refine⟨by rw[hl];exact hr.1,fun r hm=>?_⟩
 have:(r.gloss,r.ps)∈rows.map vRow:=by rw[← h];exact List.mem_map.2 ⟨r,hm,rfl⟩
 obtain⟨x,hx,e⟩:=List.mem_map.1 this
 injection e with e1 e2
 rw[← e2];exact hr.2 x hx
theorem IxOk.mono{B B':Nat}{L:List IRow}(h:IxOk B L)(hB:B≤B')(hB':B'≤90000):IxOk B' L:=
 ⟨hB',h.nd,fun r hr=>⟨(h.rng r hr).1,Nat.lt_of_lt_of_le (h.rng r hr).2 hB⟩,h.len,h.lens⟩
theorem ixM_mid{X Y B:Nat}{L:List IRow}(h:IxOk B L){jr k:Nat}(hX:k≠X)(hY:k≠Y):ixM X L jr k=ixM Y L jr k:=by simp only[ixM,if_neg hX,if_neg hY]
theorem ixM_in{X B:Nat}{L:List IRow}(h:IxOk B L){jr k:Nat}{r:Dl.Rows}(hX:k≠X)(hk:ixM X L jr k=some r):mid k:=by
 have hNB:=NB_big
 have hB:=h.hB
 unfold ixM at hk
 rw[if_neg hX]at hk
 split at hk
 ·rename_i e;subst e;exact⟨Nat.le_refl _,by omega⟩
 ·simp only[Option.map_eq_some_iff]at hk
  obtain⟨q,hq,rfl⟩:=hk
  have hkq:=List.find?_some hq
  simp only[beq_iff_eq]at hkq
  have h1:=h.rng q (List.mem_of_find?_eq_some hq)
  exact⟨by omega,by omega⟩
theorem ix_call{m B:Nat}{L:List IRow}{jr:Nat}{bx:Mem}(hm:m<1000)(h:IxOk B L)(h1:bx m=ixM m L jr m)(h2: ∀k,mid k→bx k=ixM m L jr k): ∀k r,ixM (m+NB) L jr k=some r→callMem bx [m] k=some r:=fun k r hk=>by
 have hNB:=NB_big
 have hkp:(shf [m]).Keeps:=keeps_shf (by simpa using notmid hm)
 unfold callMem
 by_cases e:k=m+NB
 ·subst e
  rw[ixM_x]at hk
  rw[if_pos ⟨by omega,by simp⟩,Nat.add_sub_cancel,h1,ixM_tr h jr hkp,ixM_x];exact hk
 ·have hkm:=ixM_in h e hk
  have: ¬(NB≤k∧k - NB∈ [m]):=fun e=>by have:=hkm.2;omega
  rw[if_neg this,if_pos hkm,h2 k hkm,ixM_tr h jr hkp,ixM_mid h (Y:=m+NB) (by have:=hkm.1;omega) e];exact hk
theorem ix_aft{m d B:Nat}{L:List IRow}{jr:Nat}{H1:Mem}(hm:m<1000)(hd:d<1000)(hdm:d≠m)(h:IxOk B L)(h1:H1 (m+NB)=ixM (m+NB) L jr (m+NB))(h2: ∀k,mid k→H1 k=ixM (m+NB) L jr k)(bx:Mem):
  callMemAft bx H1 [m] (some d) m=ixM m L jr m∧∀k,mid k→callMemAft bx H1 [m] (some d) k=ixM m L jr k:=by
 have hNB:=NB_big
 constructor
 ·rw[aft_x (by simp[hdm]) (fun r hr=>ixM_mids h jr _ r hr) h1,ixM_x,ixM_x]
 ·intro k hk
  rw[aft_mid hk (by have:=hk.1;omega) (by simp;have:=hk.1;omega) (h2 k hk) (fun r hr=>ixM_mids h jr _ r hr),ixM_mid (X:=m+NB) (Y:=m) h (by have:=hk.2;omega) (by have:=hk.1;omega)]
def frow(r:IRow):List C:= [ls r.gloss,.sl 3 (r.ps.map Part.enc)]
theorem sub_frzIx{s:DS}{t cap B jr:Nat}{L:List IRow}(h:IxOk B L)(ht:s.sl t= .one (.ba 1000 2 0 L.length cap))(h1:s.bx 1000=some (L.map irow++anyRows jr 2))(h2: ∀r∈L,s.bx r.k=some (kmem r)):
  s.Sub (kn s.n [(t,dv (.sl 2 (L.map frow)))] noMem):=by
 have key: ∀n,n≤L.length→∃s':DS,s.Sub s'∧s'.n=s.n∧s'.sl t= .one (.ba 1000 2 0 L.length cap)∧s'.bx 1000=some (((L.take n).map frow).map (List.map T.c)++((L.drop n).map irow++anyRows jr 2))∧∀r∈L.drop n,s'.bx r.k=some (kmem r):=by
  intro n
  induction n with
  | zero=>exact fun _=>⟨s,DS.Sub.refl s,rfl,ht,by simpa using h1,by simpa using h2⟩
  | succ n ih=>
   intro hn
   obtain⟨s',g1,g2,g3,g4,g5⟩:=ih (by omega)
   have hx:L[n]? =some L[n]:=List.getElem?_eq_getElem (by omega)
   have hxm:L[n]∈L:=List.getElem_mem _
   have hdrop:L.drop n=L[n]::L.drop (n+1):=List.drop_eq_getElem_cons (by omega)
   generalize L[n]=r at hx hxm hdrop
   have hrng:=h.rng r hxm
   have hdist: ∀q∈L.drop (n+1),q.k≠r.k:=fun q hq e=>by
    have hnd:=h.nd
    rw[← List.take_append_drop n L,hdrop,List.map_append,List.map_cons,List.nodup_append]at hnd
    exact(List.nodup_cons.1 hnd.2.1).1 (List.mem_map.2 ⟨q,hq,e⟩)
   have hmem:s'.bx r.k=some ((r.ps.map Part.enc).map (List.map T.c)++anyRows r.j 3):=by
    rw[g5 r (by rw[hdrop];simp)];simp[kmem]
   have hcr: ∀cs:List (List C),(cs.map (List.map T.c)).map (T.frzAll r.k 3 (r.ps.map Part.enc))=cs.map (List.map T.c):=fun cs=>by
    rw[List.map_map]
    refine List.map_congr_left fun x _=>?_
    simp only[Function.comp,T.frzAll_eq,List.map_map]
    refine List.map_congr_left fun y _=>?_
    simp[T.frz]
   have hany: ∀(j z:Nat),(anyRows j z).map (T.frzAll r.k 3 (r.ps.map Part.enc))=anyRows j z:=fun j z=>by
    refine(List.map_congr_left fun x hx=>?_).trans (List.map_id _)
    rw[List.eq_of_mem_replicate hx,T.frzAll_eq,List.map_replicate];simp[T.frz]
   refine⟨s'.frz r.k 3 (r.ps.map Part.enc),DS.Sub.trans g1 (fun X a w ⟨E,hE⟩=>hE.frz (by omega) hmem (fun x hx=>by obtain⟨p,_,rfl⟩:=List.mem_map.1 hx;rfl)),g2,?_,?_,fun q hq=>?_⟩
   ·simp only[DS.frz,g3,D.frz,T.frz,if_neg (show ¬(1000:Nat)=r.k by omega)]
   ·simp only[DS.frz,if_neg (show ¬(1000:Nat)=r.k by omega),g4,Option.map_some,List.map_append,hcr,hany,hdrop,List.map_cons]
    congr 1
    rw[List.take_add_one,hx]
    simp only[Option.toList_some,List.map_append,List.map_cons,List.map_nil,List.append_assoc,List.cons_append,List.nil_append]
    congr 1
    congr 1
    ·simp[irow,T.frzAll,T.frz,frow]
     exact List.take_of_length_le (by simp)
    ·congr 1
     rw[List.map_map]
     refine List.map_congr_left fun x hx=>?_
     simp only[Function.comp,irow,T.frzAll,T.frz,if_neg (hdist x hx)]
   ·simp only[DS.frz,if_neg (hdist q hq),g5 q (by rw[hdrop];simp[hq]),Option.map_some]
    congr 1
    unfold kmem
    rw[List.map_append,hany]
    congr 1
    have e:q.ps.map pRow=(q.ps.map Part.enc).map (List.map T.c):=by rw[List.map_map];rfl
    rw[e,hcr]
 obtain⟨s',g1,g2,g3,g4,_⟩:=key L.length (Nat.le_refl _)
 rw[List.take_length,List.drop_length,List.map_nil,List.nil_append]at g4
 refine DS.Sub.trans g1 (DS.Sub.trans (b:=s'.frz 1000 2 (L.map frow)) (fun X a w ⟨E,hE⟩=>hE.frz (by omega) g4 (fun x hx=>by obtain⟨p,_,rfl⟩:=List.mem_map.1 hx;rfl)) (kL g2 ⟨.inl ?_,trivial⟩ (by simp[noMem])))
 simp only[DS.frz,g3,D.frz,T.frz,if_true,List.drop_zero,List.length_map,Nat.zero_add,Nat.le_refl,and_self]
 rw[List.take_of_length_le (by simp)]
theorem frow_view{L:List IRow}{rows:List Row}(h:viewL L=rows.map vRow):L.map frow=rows.map Row.enc:=by
 have:L.map frow=(viewL L).map (fun v=> [ls v.1,.sl 3 (v.2.map Part.enc)]):=by simp[viewL,frow]
 rw[this,h];simp[Row.enc]
theorem ix_new{m B:Nat}{L:List IRow}{jr:Nat}{H1:Mem}(hm:m<1000)(h:IxOk B L)(h1:H1 0=ixM 0 L jr 0)(h2: ∀k,mid k→H1 k=ixM 0 L jr k)(bx:Mem):
  callMemAft bx H1 [] (some m) m=ixM m L jr m∧∀k,mid k→callMemAft bx H1 [] (some m) k=ixM m L jr k:=by
 have hkp:(usf [] (some m)).Keeps:=keeps_usf
 constructor
 ·simp only[callMemAft,if_true,h1]
  rw[ixM_tr h jr hkp,ixM_x,ixM_x]
 ·intro k hk
  have h3: ¬(some m=some k):=by simp;have:=hk.1;omega
  simp only[callMemAft,if_neg h3,List.not_mem_nil,if_false,if_pos hk,h2 k hk]
  rw[ixM_tr h jr hkp]
  exact ixM_mid (X:=0) (Y:=m) h (by have:=hk.1;omega) (by have:=hk.1;omega)
theorem buildP_D(l:List Ent)(hl:l.length≤110)(hs: ∀e∈l,e.senses.length≤20):DCalls Tryz.prog 58 [dv (.sl 8 (l.map Ent.enc))] (dv (.sl 2 ((buildR l).map Row.enc))):=by
 have hNB:=NB_big
 refine kd (N:=22) (rs:= [.tmp 2]) Tryz.func58 ?_
 (repeat'(first|apply kA|apply kB|((first|refine kc (N:=22) ?_|apply kD|apply kE);simp +decide only[go_sem])|(apply kG;(simp +decide only[go_sem];rfl);all_goals(intro hcnd;try exact kz hcnd))))
 refine CallC.eff (caps:= []) [] (open_E [] (by simp) (by simp)) (by simp +decide only[go_sem]) (.cons (by simp +decide only[go_sem]) .nil) (fun k r hk=>by cases hk) ⟨by simp,by simp⟩ ?_
 rintro r H1 ⟨rfl,L,jr,hv,hok,h1,h2⟩
 obtain⟨q1,q2⟩:(∀bx,callMemAft bx H1 [] (some 6) 6=ixM 6 L jr 6)∧∀bx k,mid k→callMemAft bx H1 [] (some 6) k=ixM 6 L jr k:=⟨fun bx=>(ix_new (by omega) hok h1 h2 bx).1,fun bx=>(ix_new (by omega) hok h1 h2 bx).2⟩
 simp +decide only[go_sem]
 (repeat'(first|apply kA|apply kB|((first|refine kc (N:=22) ?_|apply kD|apply kE);simp +decide only[go_sem])|(apply kG;(simp +decide only[go_sem];rfl);all_goals(intro hcnd;try exact kz hcnd))))
 refine dw_rng l (fun k (x:List IRow×Nat)=>kn 22 [(3,.one (.bx 6 2 0 0)),(7,dv (.sl 8 (l.map Ent.enc))),(8,dv (li l.length)),(9,dv (li k))] (ixM 6 x.1 x.2))
  (fun k x=>viewL x.1=(buildN l k).map vRow∧IxOk (1001+20*k) x.1) (L,jr) (by simp[maxLen];omega) ?_ ⟨hv,hok⟩ ?_ ?_
 ·refine kL rfl (by simp +decide only[go_sem]) (fun k r hk=>?_)
  have hk':ixM 6 L jr k=some r:=hk
  by_cases e:k=6
  ·subst e
   simp +decide only[go_sem,q1]
   exact hk'
  ·have hkm:=ixM_in hok e hk'
   have q3:=fun bx=>q2 bx k hkm
   simp +decide only[go_sem,q3]
   exact hk'
 ·rintro k x ⟨L,jr⟩ hx hk hm ht hd hw ⟨hv,hok⟩
  simp only at hv hok
  have hxs:=hs x hm
  have hbk:=view_ok hv (build_okc (c:=20) hs k)
  have hstep:buildN l (k+1)=putsN (buildN l k) x.id x.senses x.senses.length:=by simp only[buildN,hx]
  have hfg: ∀(m q:Nat),m<1000→(ixM 6 L jr q).map (Dl.Rows.tr (fgt m))=ixM 6 L jr q:=fun m q hm=>ixM_tr hok jr (keeps_fgt (notmid hm)) q
  (repeat'(first|apply kA|apply kB|((first|refine kc (N:=22) ?_|apply kD|apply kE);simp +decide only[go_sem,hd,hx,Ent.enc,hfg])|(apply kG;(simp +decide only[go_sem,hd,hx,Ent.enc,hfg];rfl);all_goals(intro hcnd;try exact kz hcnd))))
  have hch:=change_E (6+NB) (1001+20*k) (by omega) x true rfl L jr hok (by omega) (by omega) (by omega) (by omega) (fun r hr=>by have:=hbk.2 r hr;omega)
  refine CallC.eff (caps:= []) [6] hch (by simp +decide only[go_sem]) (DLeL.of_eq (by simp +decide only[go_sem,Ent.enc])) (ix_call (by omega) hok (by simp +decide only[go_sem,hfg]) (fun q hq=>?_)) ⟨by simpa using notmid (by omega),by simp⟩ ?_
  ·have hqe: ∀m,m<1000→(q=m)=False:=fun m hm=>by simp;have:=hq.1;omega
   simp +decide only[go_sem,hqe,hfg]
  rintro r H2 ⟨rfl,L',jr',hst,hok',g1,g2⟩
  have p:=ix_aft (d:=15) (show 6<1000 by omega) (by omega) (by omega) hok' g1 g2
  simp +decide only[go_sem]
  (repeat'(first|apply kA|apply kB|((first|refine kc (N:=22) ?_|apply kD|apply kE);simp +decide only[go_sem,hw])|(apply kG;(simp +decide only[go_sem,hw];rfl);all_goals(intro hcnd;try exact kz hcnd))))
  refine⟨(L',jr'),⟨?_,hok'.mono (by omega) (by omega)⟩,kL rfl (by simp +decide only[go_sem]) (fun q r hq=>?_)⟩
  ·simp only
   rw[hv]at hst
   rw[hstep]
   exact steps_put (build_good l k) x.id x.senses _ _ hst
  ·have hq':ixM 6 L' jr' q=some r:=hq
   by_cases e:q=6
   ·subst e
    have p1:=fun bx=>(p bx).1
    simp +decide only[go_sem,p1]
    exact hq'
   ·have hqm:=ixM_in hok' e hq'
    have p2:=fun bx=>(p bx).2 q hqm
    simp +decide only[go_sem,p2]
    exact hq'
 ·rintro⟨L,jr⟩ hd ⟨hv,hok⟩
  simp only at hv hok
  (repeat'(first|apply kA|apply kB|((first|refine kc (N:=22) ?_|apply kD|apply kE);simp +decide only[go_sem,hd,ixM_x])|(apply kG;(simp +decide only[go_sem,hd,ixM_x];rfl);all_goals(intro hcnd;try exact kz hcnd))))
  refine kK (sub_frzIx (t:=2) (cap:=L.length+jr) (L:=L) (jr:=jr) hok (by simp +decide only[go_sem]) (by simp +decide only[go_sem];exact ixM_r (by omega) L jr) (fun r hr=>?_)) ?_
  ·simp +decide only[go_sem]
   exact ixM_k jr hok (notmid (by omega)) hr
  ·apply kF;simp +decide only[go_sem]
   rw[frow_view hv]
   rfl
end Go.Proofs.YtehdkccjaeckhaaGreatDoor.V
namespace Go.Proofs.YtehdkccjaeckhaaGreatDoor.V
open Go.Dl
def Has(l:List Row)(g:ByteArray)(p:Part):Prop:=∃r∈l,r.gloss=g∧p∈r.senses
theorem row_one{l:List Row}(h:RGood l){r q:Row}(hr:r∈l)(hq:q∈l)(e:r.gloss=q.gloss):r=q:=by
 obtain⟨i,hi⟩:=List.getElem?_of_mem hr
 obtain⟨j,hj⟩:=List.getElem?_of_mem hq
 rcases Nat.lt_trichotomy i j with h1|h1|h1
 ·have:=pw_get h.pw h1 hi hj;rw[e,strLt_irrefl]at this;cases this
 ·subst h1;rw[hi]at hj;injection hj
 ·have:=pw_get h.pw h1 hj hi;rw[e,strLt_irrefl]at this;cases this
theorem has_row{l:List Row}(h:RGood l){r:Row}(hr:r∈l)(p:Part):Has l r.gloss p↔p∈r.senses:=
 ⟨fun⟨q,hq,e,hp⟩=>by rw[row_one h hr hq e.symm];exact hp,fun hp=>⟨r,hr,rfl,hp⟩⟩
theorem mem_ins_iff{ps:List Part}{p x:Part}(hp:p.alt=0)(h:PSorted ps):x∈ins ps p↔x∈ps∨x=p:=⟨ins_mem,mem_ins hp h⟩
theorem atR_row{l:List Row}(h:RGood l)(g:ByteArray)(p:Part):p∈(atR l g).senses↔Has l g p:=by
 obtain⟨g1,g2⟩:=lowR_spec h.pw g
 constructor
 ·intro hp
  unfold atR at hp
  split at hp
  ·split at hp
   ·rename_i r hr he
    rw[beq_bytes]at he
    exact⟨r,List.mem_of_getElem? hr,by simpa using he,hp⟩
   ·simp at hp
  ·simp at hp
 ·rintro⟨r,hr,rfl,hp⟩
  obtain⟨j,hj⟩:=List.getElem?_of_mem hr
  have hle:lowR l r.gloss≤j:=by
   rcases Nat.lt_or_ge j (lowR l r.gloss)with hlt|hge
   ·have:=g1 j r hlt hj;rw[strLt_irrefl]at this;cases this
   ·exact hge
  have hjl:=(List.getElem?_eq_some_iff.1 hj).1
  have hy:l[lowR l r.gloss]? =some (l[lowR l r.gloss]'(by omega)):=List.getElem?_eq_getElem (by omega)
  generalize l[lowR l r.gloss]'(by omega)=y at hy
  have e:lowR l r.gloss=j:=by
   rcases Nat.lt_or_ge (lowR l r.gloss) j with hlt|hge
   ·have h1:=pw_get h.pw hlt hy hj
    rw[g2 _ y (Nat.le_refl _) hy]at h1;cases h1
   ·omega
  unfold atR
  rw[e,hj]
  have he:(r.gloss==r.gloss)=true:=by rw[beq_bytes];simp
  simp only[he,if_true]
  exact hp
theorem has_put{l:List Row}(h:RGood l){g:ByteArray}{p:Part}(hp:p.alt=0)(g':ByteArray)(p':Part):Has (putR l g p) g' p'↔Has l g' p'∨(g'=g∧p'=p):=by
 have hput:=h.put g hp
 have hnew:(⟨(atR l g).gloss,ins (atR l g).senses p⟩:Row)∈putR l g p:=by unfold putR;simp
 have hng:(⟨(atR l g).gloss,ins (atR l g).senses p⟩:Row).gloss=g:=atR_gloss l g
 by_cases e:g'=g
 ·subst e
  have h1:=has_row hput hnew p'
  rw[hng]at h1
  rw[h1,mem_ins_iff hp (atR_good h g'),atR_row h]
  simp
 ·have hne: ¬(g'=g∧p'=p):=fun h=>e h.1
  simp only[hne,or_false]
  obtain⟨g1,g2⟩:=lowR_spec h.pw g
  constructor
  ·rintro⟨r,hr,hrg,hrp⟩
   rcases putR_mem hr with hr|rfl
   ·exact⟨r,hr,hrg,hrp⟩
   ·rw[hng]at hrg;exact absurd hrg.symm e
  ·rintro⟨r,hr,hrg,hrp⟩
   refine⟨r,?_,hrg,hrp⟩
   obtain⟨j,hj⟩:=List.getElem?_of_mem hr
   unfold putR
   rcases Nat.lt_or_ge j (lowR l g)with hlt|hge
   ·refine List.mem_append_left _ (List.mem_of_getElem? (i:=j) ?_)
    rw[List.getElem?_take,if_pos hlt];exact hj
   ·have hsk:skipR l g≤j:=by
     unfold skipR
     split
     ·rename_i y hy
      split
      ·rename_i he
       rcases Nat.lt_or_ge (lowR l g) j with h1|h1
       ·omega
       ·have:lowR l g=j:=by omega
        rw[this,hj]at hy
        injection hy with hy
        subst hy
        rw[beq_bytes]at he
        simp at he
        rw[he]at hrg
        exact absurd hrg.symm e
      ·omega
     ·omega
    refine List.mem_append_right _ (List.mem_cons_of_mem _ (List.mem_of_getElem? (i:=j - skipR l g) ?_))
    rw[List.getElem?_drop,show skipR l g+(j - skipR l g)=j by omega];exact hj
def Of(id:Int)(ss:List Sns)(n:Nat)(g:ByteArray)(p:Part):Prop:=∃k s,k<n∧ss[k]? =some s∧g=s.gloss∧p=pt id k
theorem Of_succ(id:Int)(ss:List Sns)(n:Nat)(g:ByteArray)(p:Part):Of id ss (n+1) g p↔Of id ss n g p∨∃s,ss[n]? =some s∧g=s.gloss∧p=pt id n:=by
 constructor
 ·rintro⟨k,s,hk,h⟩
  by_cases e:k=n
  ·subst e;exact .inr ⟨s,h⟩
  ·exact .inl ⟨k,s,by omega,h⟩
 ·rintro(⟨k,s,hk,h⟩|⟨s,h⟩)
  ·exact⟨k,s,by omega,h⟩
  ·exact⟨n,s,by omega,h⟩
theorem has_puts{l:List Row}(h:RGood l)(id:Int)(ss:List Sns)(g:ByteArray)(p:Part): ∀n,Has (putsN l id ss n) g p↔Has l g p∨Of id ss n g p
 | 0=>by simp[putsN,Of]
 | n+1=>by
  rw[Of_succ]
  simp only[putsN]
  split
  ·rename_i s hs
   rw[has_put (puts_good h id ss n) rfl,has_puts h id ss g p n,or_assoc]
   simp[hs]
  ·rename_i hs
   rw[has_puts h id ss g p n]
   simp[hs]
def All(l:List Ent)(g:ByteArray)(p:Part):Prop:=∃e∈l,Of e.id e.senses e.senses.length g p
theorem has_build(l:List Ent)(g:ByteArray)(p:Part): ∀n,Has (buildN l n) g p↔All (l.take n) g p
 | 0=>by simp[buildN,All,Has]
 | n+1=>by
  simp only[buildN]
  split
  ·rename_i e he
   rw[has_puts (build_good l n),has_build l g p n,Go.Dl.take_snoc he]
   simp[All,or_and_right,exists_or]
  ·rename_i he
   rw[has_build l g p n,List.take_of_length_le (by simpa using he),List.take_of_length_le (by have:=List.getElem?_eq_none_iff.1 he;omega)]
theorem has_buildR(l:List Ent)(g:ByteArray)(p:Part):Has (buildR l) g p↔All l g p:=by
 unfold buildR;rw[has_build,List.take_length]
theorem buildR_good(l:List Ent):RGood (buildR l):=build_good l _
end Go.Proofs.YtehdkccjaeckhaaGreatDoor.V
namespace Go.Proofs.YtehdkccjaeckhaaGreatDoor
abbrev kq23:Nat→List (Nat×Go.Dl.Mode):=fun n=>match n with|15=>kpn12|_=> []
end Go.Proofs.YtehdkccjaeckhaaGreatDoor
namespace Go.Proofs.YtehdkccjaeckhaaGreatDoor
open Go.Dl
open S (usort)
attribute [local irreducible] DW DCalls ECalls wk IW
def openP:ByteArray:=⟨#[32,40]⟩
def closeP:ByteArray:=⟨#[41]⟩
def Dic.partS(d:Dic)(p:V.Part):ByteArray:=if 1<(getE d.lex p.entry).1.senses.length then d.head p.entry++(openP++numB (p.sense+1)++closeP)else d.head p.entry
def Dic.parts(d:Dic)(l:List V.Part):List ByteArray:=l.map d.partS
def Dic.revS(d:Dic)(r:V.Row):ByteArray:=r.gloss++colonS++joinR (d.parts r.senses)
def Dic.revP(d:Dic)(k:Nat):List ByteArray:=((V.buildR d.lex).take k).map d.revS
def Dic.rev(d:Dic):List ByteArray:=(V.buildR d.lex).map d.revS
structure PartOk(d:Dic)(g:ByteArray)(p:V.Part):Prop where
 ent:hasId d.lex p.entry=true
 lo:0≤p.sense
 hi:p.sense<5
 sz:g.size≤1048576
theorem rev_part{d:Dic}(hd:OkD d){r:V.Row}(hr:r∈V.buildR d.lex){p:V.Part}(hp:p∈r.senses):PartOk d r.gloss p:=by
 obtain⟨e,he,k,s,hk,hs,hg,rfl⟩:=(V.has_buildR d.lex r.gloss p).1 ⟨r,hr,rfl,hp⟩
 have h5:=(links_few hd he).2
 exact⟨(hasId_iff _ _).2 ⟨e,he,rfl⟩,by simp[V.pt],by simp[V.pt];omega,by rw[hg];exact((hd.mid e he).strs s (List.mem_of_getElem? hs)).1⟩
theorem rev_few{d:Dic}(hd:OkD d):(V.buildR d.lex).length≤25∧∀r∈V.buildR d.lex,r.senses.length≤25:=by
 have h:=V.build_okc (l:=d.lex) (c:=5) (fun e he=>(links_few hd he).2) d.lex.length
 have h5:=hd.few
 exact h.mono (by omega)
theorem partS_le{d:Dic}(hd:OkD d){g:ByteArray}{p:V.Part}(h:PartOk d g p):(d.partS p).size≤603∧(d.partS p).size≠0:=by
 have h1:=head_le hd p.entry
 have h2:=head_size hd.toRightD h.ent
 have h3:=numB_le (n:=p.sense+1) (by have:=h.lo;omega) (by have:=h.hi;omega)
 have e1:openP.size=2:=rfl
 have e2:closeP.size=1:=rfl
 unfold Dic.partS
 split
 ·simp only[ByteArray.size_append];omega
 ·omega
theorem parts_le{d:Dic}(hd:OkD d){r:V.Row}(hr:r∈V.buildR d.lex): ∀s∈d.parts r.senses,s.size≤603∧s.size≠0:=fun s hs=>by
 obtain⟨p,hp,rfl⟩:=List.mem_map.1 hs
 exact partS_le hd (rev_part hd hr hp)
theorem row_gloss{d:Dic}(hd:OkD d){r:V.Row}(hr:r∈V.buildR d.lex):r.gloss.size≤1048576:=by
 obtain⟨p,hp⟩:=List.exists_mem_of_ne_nil _ ((V.buildR_good d.lex).ne r hr)
 exact(rev_part hd hr hp).sz
theorem parts_take{d:Dic}{l:List V.Part}{k:Nat}{p:V.Part}(h:l[k]? =some p):strs (d.parts (l.take (k+1)))=strs (d.parts (l.take k))++ [[ls (d.partS p)]]:=by
 rw[take_snoc h];simp[Dic.parts]
theorem rev_take{d:Dic}{k:Nat}{r:V.Row}(h:(V.buildR d.lex)[k]? =some r):strs (d.revP (k+1))=strs (d.revP k)++ [[ls (d.revS r)]]:=by
 unfold Dic.revP;rw[take_snoc h];simp
theorem rev_all(d:Dic):d.revP (V.buildR d.lex).length=d.rev:=by unfold Dic.revP;rw[List.take_length];rfl
theorem parts_len(d:Dic)(l:List V.Part):(d.parts l).length=l.length:=by simp[Dic.parts]
def rowRow(r:V.Row):List T:= [.c (ls r.gloss),.c (.sl 3 (r.senses.map V.Part.enc))]
theorem reversal_D(x:LX){d:Dic}(hd:OkD d):DCalls Tryz.prog 26 [.agg (lngRow x d)] (dv (.sl 1 (strs d.rev))):=by
 have hmax:maxLen=9223372036854775807:=rfl
 have hf:=hd.few
 have hB:=V.buildP_D d.lex (by omega) (fun e he=>by have:=(links_few hd he).2;omega)
 obtain⟨hr1,hr2⟩:=rev_few hd
 rw[← rev_all]
 have hall: ∀k r,(V.buildR d.lex)[k]? =some r→r∈V.buildR d.lex:=fun k r h=>List.mem_of_getElem? h
 refine kd (N:=67) (rs:= [.tmp 2]) Tryz.func26 ?_
 (repeat'(first|apply kA|apply kB|((first|refine kc (N:=67) ?_|refine kj (N:=67) kq23 ?_|apply kD|apply kE|refine kx hB ?_);simp +decide only[go_sem,lngRow])|(apply kG;(simp +decide only[go_sem,lngRow];rfl);all_goals(intro hcnd;try exact kz hcnd))))
 refine dw_own 3 3 1 (by simp +decide only[go_sem]) ?_
 refine dw_rng0 (V.buildR d.lex) (fun k=>kn 67 [(1,.one (.bx 1 9 0 0)),(3,.one (.own 3 1 (strs (d.revP k)))),(14,dv (.sl 2 ((V.buildR d.lex).map V.Row.enc))),(15,dv (li (V.buildR d.lex).length)),(16,dv (li k))] (ml [(1,[lngRow x d])])) (by omega)
  (kM rfl (by simp +decide only[go_sem,lngRow,Dic.revP,List.take_zero,List.map_nil,List.length_cons,List.length_nil]) (by simp +decide only[go_sem,lngRow])) ?_ ?_
 ·intro k r hy hk hm htk hlt hw
  have hst:=rev_take (d:=d) hy
  have hr5:=hr2 r hm
  have hgz:=row_gloss hd hm
  have hpz:=parts_le hd hm
  have hJ:=joined_D (d.parts r.senses) (by rw[parts_len];omega) (fun s hs=>by have:=(hpz s hs).1;omega)
  rw[joinF_eq _ (fun s hs=>(hpz s hs).2)]at hJ
  have hjl:=joinR_le3 (fun s hs=>(hpz s hs).1)
  rw[parts_len]at hjl
  have h10:r.senses.length*(603+2)≤25*(603+2):=Nat.mul_le_mul_right _ hr5
  have hrl:(d.revP k).length≤25:=by unfold Dic.revP;rw[List.length_map,List.length_take];omega
  have r1:(((d.revP k).length+1)*16≤140737488355328)=True:=eq_true (by omega)
  rw[hst]
  unfold Dic.revS
  (repeat'(first|apply kA|apply kB|((first|refine kc (N:=67) ?_|refine kj (N:=67) kq23 ?_|apply kD|apply kE);simp +decide only[go_sem,hlt,hw,hy,V.Row.enc,lngRow])|(apply kG;(simp +decide only[go_sem,hlt,hw,hy,V.Row.enc,lngRow];rfl);all_goals(intro hcnd;try exact kz hcnd))))
  refine dw_own 6 6 1 (by simp +decide only[go_sem]) ?_
  refine dw_rng0 r.senses (fun j=>kn 67 [(1,.one (.bx 1 9 0 0)),(3,.one (.own 3 1 (strs (d.revP k)))),(5,.one (.bx 5 2 0 0)),(6,.one (.own 6 1 (strs (d.parts (r.senses.take j))))),(14,dv (.sl 2 ((V.buildR d.lex).map V.Row.enc))),(15,dv (li (V.buildR d.lex).length)),(16,dv (li k)),(21,dv (.sl 3 (r.senses.map V.Part.enc))),(22,dv (li r.senses.length)),(23,dv (li j))] (ml [(1,[lngRow x d]),(5,[rowRow r])])) (by omega)
   (kM rfl (by simp +decide only[go_sem,lngRow,rowRow,Dic.parts,List.take_zero,List.map_nil,List.length_cons,List.length_nil]) (by simp +decide only[go_sem,lngRow,rowRow])) ?_ ?_
  ·intro j p hp hj hpm htj hlt2 hw2
   have hpo:=rev_part hd hm hpm
   have hH:=head_D x hd p.entry
   have hhl:=head_le hd p.entry
   have hG:=get_D d.lex p.entry (by omega)
   have hpt:=parts_take (d:=d) hp
   have hlo:=hpo.lo
   have hhi:=hpo.hi
   have w1:IntKind.i64.wrap (p.sense+1)=p.sense+1:=wrap_i64 (by omega) (by omega)
   have hN:=textN_D (p.sense+1) (by omega) (by omega)
   have hnl:=numB_le (n:=p.sense+1) (by omega) (by omega)
   have hpl:(d.parts (r.senses.take j)).length≤25:=by rw[parts_len,List.length_take];omega
   have r2:(((d.parts (r.senses.take j)).length+1)*16≤140737488355328)=True:=eq_true (by omega)
   rw[hpt]
   unfold Dic.partS
   simp only[lngRow,Ent.row]at hH hG
   generalize d.head p.entry=hh at hH hhl ⊢
   generalize getE d.lex p.entry=ge at hG ⊢
   obtain⟨e,b⟩:=ge
   simp only at hG ⊢
   by_cases h1:1<e.senses.length
   ·rw[if_pos h1]
    have t1:((1:Int)<(e.senses.length:Int))=True:=by simp;omega
    have z1:(#[(32:UInt8),40].size+(numB (p.sense+1)).size≤maxLen)=True:=mx (by simp only[List.size_toArray,List.length_cons,List.length_nil];omega)
    have z2:(#[(32:UInt8),40].size+(numB (p.sense+1)).size+ #[(41:UInt8)].size≤maxLen)=True:=mx (by simp only[List.size_toArray,List.length_cons,List.length_nil];omega)
    have z3:(hh.size+(#[(32:UInt8),40].size+(numB (p.sense+1)).size+ #[(41:UInt8)].size)≤maxLen)=True:=mx (by simp only[List.size_toArray,List.length_cons,List.length_nil];omega)
    generalize numB (p.sense+1)=nb at hN hnl z1 z2 z3 ⊢
    (repeat'(first|apply kA|apply kB|((first|refine kc (N:=67) ?_|refine kj (N:=67) kq23 ?_|apply kD|apply kE|refine kx hH ?_|refine kx hG ?_|refine kx hN ?_);simp +decide only[go_sem,hlt2,hw2,hp,t1,w1,z1,z2,z3,r2,V.Part.enc,Ent.row,lngRow,rowRow])|(apply kG;(simp +decide only[go_sem,hlt2,hw2,hp,t1,w1,z1,z2,z3,r2,V.Part.enc,Ent.row,lngRow,rowRow];rfl);all_goals(intro hcnd;try exact kz hcnd))))
    exact kM rfl (by simp +decide only[go_sem,lngRow,rowRow,openP,closeP]) (by simp +decide only[go_sem,lngRow,rowRow])
   ·rw[if_neg h1]
    have t1:((1:Int)<(e.senses.length:Int))=False:=by simp;omega
    (repeat'(first|apply kA|apply kB|((first|refine kc (N:=67) ?_|refine kj (N:=67) kq23 ?_|apply kD|apply kE|refine kx hH ?_|refine kx hG ?_|refine kx hN ?_);simp +decide only[go_sem,hlt2,hw2,hp,t1,r2,V.Part.enc,Ent.row,lngRow,rowRow])|(apply kG;(simp +decide only[go_sem,hlt2,hw2,hp,t1,r2,V.Part.enc,Ent.row,lngRow,rowRow];rfl);all_goals(intro hcnd;try exact kz hcnd))))
    exact kM rfl (by simp +decide only[go_sem,lngRow,rowRow]) (by simp +decide only[go_sem,lngRow,rowRow])
  ·intro hlt2
   rw[List.take_length]
   generalize joinR (d.parts r.senses)=jj at hJ hjl ⊢
   have z1:(r.gloss.size+ #[(58:UInt8),32].size≤maxLen)=True:=mx (by simp only[List.size_toArray,List.length_cons,List.length_nil];omega)
   have z2:(r.gloss.size+ #[(58:UInt8),32].size+jj.size≤maxLen)=True:=mx (by simp only[List.size_toArray,List.length_cons,List.length_nil];omega)
   (repeat'(first|apply kA|apply kB|((first|refine kc (N:=67) ?_|refine kj (N:=67) kq23 ?_|apply kD|apply kE|refine kx hJ ?_);simp +decide only[go_sem,hlt2,hw,z1,z2,r1,lngRow,rowRow])|(apply kG;(simp +decide only[go_sem,hlt2,hw,z1,z2,r1,lngRow,rowRow];rfl);all_goals(intro hcnd;try exact kz hcnd))))
   exact kM rfl (by simp +decide only[go_sem,lngRow,colonS]) (by simp +decide only[go_sem,lngRow])
 ·intro hlt
  (repeat'(first|apply kA|apply kB|((first|refine kc (N:=67) ?_|refine kj (N:=67) kq23 ?_|apply kD|apply kE);simp +decide only[go_sem,hlt,lngRow])|(apply kG;(simp +decide only[go_sem,hlt,lngRow];rfl);all_goals(intro hcnd;try exact kz hcnd))))
  refine dw_slot 2 _ (DLe.own_ _ _ _) ?_
  apply kF;simp +decide only[go_sem]
end Go.Proofs.YtehdkccjaeckhaaGreatDoor
namespace Go.Dl
open Go.RowKit
noncomputable section
inductive PQ where
 | leaf
 | run (l:List Nat) (t:PQ)
 | two (i:Nat) (t:PQ) (j:Nat) (u:PQ)
 | thr (i:Nat) (t:PQ) (j:Nat) (u:PQ) (k:Nat) (v:PQ)
def PQ.wk(P:Program)(ops:List Oper)(hd:List Nat)(ds:List (Option Nat)):PQ→DS→(DS→Prop)→Prop
 | .leaf,s,K=>K s
 | .run l t,s,K=>Go.Dl.wk P ds (pickH ops hd l) s fun s'=>t.wk P ops hd ds s' K
 | .two i t j u,s,K=>(Go.Dl.wk P ds (pickH ops hd [i]) s fun s'=>t.wk P ops hd ds s' K)∧Go.Dl.wk P ds (pickH ops hd [j]) s fun s'=>u.wk P ops hd ds s' K
 | .thr i t j u k v,s,K=>(Go.Dl.wk P ds (pickH ops hd [i]) s fun s'=>t.wk P ops hd ds s' K)∧(Go.Dl.wk P ds (pickH ops hd [j]) s fun s'=>u.wk P ops hd ds s' K)∧Go.Dl.wk P ds (pickH ops hd [k]) s fun s'=>v.wk P ops hd ds s' K
section
variable {P : Program}
theorem pqwk_leaf(ops:List Oper)(hd:List Nat)(ds:List (Option Nat))(s:DS)(K:DS→Prop):PQ.leaf.wk P ops hd ds s K=K s:=rfl
theorem pqwk_run(ops:List Oper)(hd:List Nat)(ds:List (Option Nat))(l:List Nat)(t:PQ)(s:DS)(K:DS→Prop):(PQ.run l t).wk P ops hd ds s K=Go.Dl.wk P ds (pickH ops hd l) s fun s'=>t.wk P ops hd ds s' K:=rfl
theorem pqwk_two(ops:List Oper)(hd:List Nat)(ds:List (Option Nat))(i j:Nat)(t u:PQ)(s:DS)(K:DS→Prop):(PQ.two i t j u).wk P ops hd ds s K=((Go.Dl.wk P ds (pickH ops hd [i]) s fun s'=>t.wk P ops hd ds s' K)∧Go.Dl.wk P ds (pickH ops hd [j]) s fun s'=>u.wk P ops hd ds s' K):=rfl
theorem pqwk_thr(ops:List Oper)(hd:List Nat)(ds:List (Option Nat))(i j k:Nat)(t u v:PQ)(s:DS)(K:DS→Prop):(PQ.thr i t j u k v).wk P ops hd ds s K=((Go.Dl.wk P ds (pickH ops hd [i]) s fun s'=>t.wk P ops hd ds s' K)∧(Go.Dl.wk P ds (pickH ops hd [j]) s fun s'=>u.wk P ops hd ds s' K)∧Go.Dl.wk P ds (pickH ops hd [k]) s fun s'=>v.wk P ops hd ds s' K):=rfl
attribute [go_sem] pqwk_leaf pqwk_run pqwk_two pqwk_thr
end
end
end Go.Dl
namespace Go.Dl
open Go.RowKit
noncomputable section
inductive TLeL:List T→List T→Prop where
 | nil:TLeL [] []
 | same (t:T) {l l':List T} (h:TLeL l l'):TLeL (t::l) (t::l')
 | none (sz:Nat) {l l':List T} (h:TLeL l l'):TLeL (.c (.lit (.slice Option.none 0 0))::l) (.c (.sl sz [])::l')
theorem TLeL.refl_: ∀l:List T,TLeL l l
 | []=>.nil
 | t::l=>.same t (TLeL.refl_ l)
inductive PR where
 | leaf
 | run (l:List Nat) (t:PR)
 | bl (i:Nat) (t:PR)
 | ex (i:Nat) (t:PR)
 | dia (i j:Nat) (t:PR)
 | here (a:Array Bool) (t:PR)
 | two (i:Nat) (t:PR) (j:Nat) (u:PR)
 | thr (i:Nat) (t:PR) (j:Nat) (u:PR) (k:Nat) (v:PR)
def PR.wk(P:Program)(ops:List Oper)(hd:List Nat)(ds:List (Option Nat)):PR→DS→(DS→Prop)→Prop
 | .leaf,s,K=>K s
 | .run l t,s,K=>Go.Dl.wk P ds (pickH ops hd l) s fun s'=>t.wk P ops hd ds s' K
 | .bl i t,s,K=>Go.Dl.wk P ds (pickM ops .blind [i]) s fun s'=>t.wk P ops hd ds s' K
 | .ex i t,s,K=>Go.Dl.wk P ds (pickM ops .light [i]) s fun s'=>t.wk P ops hd ds s' K
 | .dia i j t,s,K=>Go.Dl.wk P ds (pickM ops .light [i,j]) s fun s'=>t.wk P ops hd ds s' K
 | .here _ t,s,K=>t.wk P ops hd ds s K
 | .two i t j u,s,K=>(Go.Dl.wk P ds (pickH ops hd [i]) s fun s'=>t.wk P ops hd ds s' K)∧Go.Dl.wk P ds (pickH ops hd [j]) s fun s'=>u.wk P ops hd ds s' K
 | .thr i t j u k v,s,K=>(Go.Dl.wk P ds (pickH ops hd [i]) s fun s'=>t.wk P ops hd ds s' K)∧(Go.Dl.wk P ds (pickH ops hd [j]) s fun s'=>u.wk P ops hd ds s' K)∧Go.Dl.wk P ds (pickH ops hd [k]) s fun s'=>v.wk P ops hd ds s' K
section
variable {P : Program}
theorem prwk_leaf(ops:List Oper)(hd:List Nat)(ds:List (Option Nat))(s:DS)(K:DS→Prop):PR.leaf.wk P ops hd ds s K=K s:=rfl
theorem prwk_run(ops:List Oper)(hd:List Nat)(ds:List (Option Nat))(l:List Nat)(t:PR)(s:DS)(K:DS→Prop):(PR.run l t).wk P ops hd ds s K=Go.Dl.wk P ds (pickH ops hd l) s fun s'=>t.wk P ops hd ds s' K:=rfl
theorem prwk_bl(ops:List Oper)(hd:List Nat)(ds:List (Option Nat))(i:Nat)(t:PR)(s:DS)(K:DS→Prop):(PR.bl i t).wk P ops hd ds s K=Go.Dl.wk P ds (pickM ops .blind [i]) s fun s'=>t.wk P ops hd ds s' K:=rfl
theorem prwk_ex(ops:List Oper)(hd:List Nat)(ds:List (Option Nat))(i:Nat)(t:PR)(s:DS)(K:DS→Prop):(PR.ex i t).wk P ops hd ds s K=Go.Dl.wk P ds (pickM ops .light [i]) s fun s'=>t.wk P ops hd ds s' K:=rfl
theorem prwk_dia(ops:List Oper)(hd:List Nat)(ds:List (Option Nat))(i j:Nat)(t:PR)(s:DS)(K:DS→Prop):(PR.dia i j t).wk P ops hd ds s K=Go.Dl.wk P ds (pickM ops .light [i,j]) s fun s'=>t.wk P ops hd ds s' K:=rfl
theorem prwk_here(ops:List Oper)(hd:List Nat)(ds:List (Option Nat))(a:Array Bool)(t:PR)(s:DS)(K:DS→Prop):(PR.here a t).wk P ops hd ds s K=t.wk P ops hd ds s K:=rfl
theorem prwk_two(ops:List Oper)(hd:List Nat)(ds:List (Option Nat))(i j:Nat)(t u:PR)(s:DS)(K:DS→Prop):(PR.two i t j u).wk P ops hd ds s K=((Go.Dl.wk P ds (pickH ops hd [i]) s fun s'=>t.wk P ops hd ds s' K)∧Go.Dl.wk P ds (pickH ops hd [j]) s fun s'=>u.wk P ops hd ds s' K):=rfl
theorem prwk_thr(ops:List Oper)(hd:List Nat)(ds:List (Option Nat))(i j k:Nat)(t u v:PR)(s:DS)(K:DS→Prop):(PR.thr i t j u k v).wk P ops hd ds s K=((Go.Dl.wk P ds (pickH ops hd [i]) s fun s'=>t.wk P ops hd ds s' K)∧(Go.Dl.wk P ds (pickH ops hd [j]) s fun s'=>u.wk P ops hd ds s' K)∧Go.Dl.wk P ds (pickH ops hd [k]) s fun s'=>v.wk P ops hd ds s' K):=rfl
attribute [go_sem] prwk_leaf prwk_run prwk_bl prwk_ex prwk_dia prwk_here prwk_two prwk_thr
end
end
end Go.Dl
namespace Go.Proofs.YtehdkccjaeckhaaGreatDoor
abbrev kpn24:List (Nat×Go.Dl.Mode):= [(0,.light),(1,.light),(2,.light),(3,.light),(4,.light),(5,.light),(6,.light),(7,.light),(8,.light),(9,.light),(10,.light),(11,.step),(12,.light),(13,.light)]
abbrev kq24:Nat→List (Nat×Go.Dl.Mode):=fun n=>match n with|8=>kpn24|12=>kpn5|13=>kpn5|_=> []
end Go.Proofs.YtehdkccjaeckhaaGreatDoor
namespace Go.Proofs.YtehdkccjaeckhaaGreatDoor
open Go.Dl
open S (usort)
attribute [local irreducible] DW DCalls ECalls wk IW
theorem ordK_snoc(d:Dic): ∀(l acc:List Ent) (e:Ent),d.ordK acc (l++ [e])=putBack (fun x=>decide (d.cmp e x<0)) (d.ordK acc l) e
 | [],_,_=>rfl
 | y::l,acc,e=>by
  simp only[List.cons_append,Dic.ordK]
  exact ordK_snoc d l _ e
def Dic.accK(d:Dic)(k:Nat):List Ent:=d.ordK [] (d.lex.take k)
theorem accK_zero(d:Dic):d.accK 0= []:=rfl
theorem accK_succ{d:Dic}{k:Nat}{e:Ent}(h:d.lex[k]? =some e):d.accK (k+1)=putBack (fun x=>decide (d.cmp e x<0)) (d.accK k) e:=by
 unfold Dic.accK
 rw[List.take_add_one,h]
 exact ordK_snoc d _ [] e
theorem accK_all{d:Dic}(hs:UpE d.lex):d.accK d.lex.length=d.ord:=by
 unfold Dic.accK Dic.ord
 rw[List.take_length]
 exact ordK_eq d d.lex [] (by simp) hs
theorem ordK_len(d:Dic): ∀(l acc:List Ent),(d.ordK acc l).length=acc.length+l.length
 | [],_=>rfl
 | e::r,acc=>by
  simp only[Dic.ordK]
  rw[ordK_len d r,putBack_len,List.length_cons];omega
theorem accK_len{d:Dic}{k:Nat}(h:k≤d.lex.length):(d.accK k).length=k:=by
 unfold Dic.accK
 rw[ordK_len,List.length_take,List.length_nil];omega
theorem ordK_mem(d:Dic): ∀(l acc:List Ent) (x:Ent),x∈d.ordK acc l→x∈acc∨x∈l
 | [],_,_,h=>.inl h
 | e::r,acc,x,h=>by
  simp only[Dic.ordK]at h
  rcases ordK_mem d r _ x h with h|h
  ·rcases putBack_mem.1 h with rfl|h
   ·exact .inr (by simp)
   ·exact .inl h
  ·exact .inr (by simp[h])
theorem accK_mem{d:Dic}{k:Nat}{x:Ent}(h:x∈d.accK k):x∈d.lex:=by
 rcases ordK_mem d _ _ x h with h|h
 ·simp at h
 ·exact List.mem_of_mem_take h
def sRows(l:List ByteArray):Dl.Rows:=l.map fun s=> [T.c (ls s)]
theorem sRows_tr(r:Ren)(l:List ByteArray):Dl.Rows.tr r (sRows l)=sRows l:=by
 simp[sRows,Dl.Rows.tr,T.trAll,T.tr]
theorem sRows_sz(l:List ByteArray):RowsSz 1 (sRows l):=fun r hr=>by
 simp only[sRows,List.mem_map]at hr;obtain⟨x,_,rfl⟩:=hr;rfl
theorem sRows_len(l:List ByteArray):(sRows l).length=l.length:=by simp[sRows]
attribute [go_sem] sRows_tr
theorem srcEx{bx:Mem}{sz:Nat}{d:D}{ys:List (List C)}(hd:d= .one (.ex sz ys)):Src bx sz d (ys.map (List.map T.c)):=by
 rw[hd];exact .ex ys
theorem ins_rows(L:Dl.Rows)(z:List T)(J:Dl.Rows){p k:Nat}(hp:p≤k)(hk:L.length=k):
  ∃G,(L++z::J).take (p+1)++((((L++z::J).drop p).take (k+1 - p)).take (k+1 - (p+1))++(L++z::J).drop (p+1+(k - p)))=G∧G.length=(L++z::J).length∧(∃r,G[p]? =some r∧r∈L++z::J)∧∀v,G.set p v=L.take p++v::(L.drop p++J):=by
 refine⟨_,rfl,?_,?_,?_⟩
 ·simp;omega
 ·have h:p<(L++z::J).length:=by simp;omega
  refine⟨(L++z::J)[p],?_,List.getElem_mem h⟩
  rw[List.getElem?_append_left (by simp;omega),List.getElem?_take,if_pos (by omega),List.getElem?_eq_getElem h]
 ·intro v
  have e1:(L++z::J).take (p+1)=L.take p++ [(L++z::J)[p]'(by simp;omega)]:=by
   rw[List.take_add_one,List.getElem?_eq_getElem (by simp;omega),List.take_append_of_le_length (by omega)];rfl
  have e2:(((L++z::J).drop p).take (k+1 - p)).take (k+1 - (p+1))=L.drop p:=by
   rw[List.take_take,List.drop_append_of_le_length (by omega),List.take_append_of_le_length (by simp;omega)]
   exact List.take_of_length_le (by simp;omega)
  have e3:(L++z::J).drop (p+1+(k - p))=J:=by
   have:p+1+(k - p)=L.length+1:=by omega
   rw[this];simp
  have e4:(L.take p).length=p:=by simp;omega
  rw[e1,e2,e3,List.append_assoc,List.set_append_right _ _ (by omega),e4]
  simp
abbrev idA(l:List Ent):Dl.Rows:=iRows (l.map (·.id))
abbrev keyA(d:Dic)(l:List Ent):Dl.Rows:=sRows (l.map fun x=>d.sp x.form)
theorem order56_D(x:LX){d:Dic}(hd:OkD d):DCalls Tryz.prog 19 [.agg (lngRow x d)] (dv (.sl 1 (ints (d.ord.map (·.id))))):=by
 have hmax:maxLen=9223372036854775807:=rfl
 have hf:=hd.few
 refine kd (N:=71) (rs:= [.tmp 2]) Tryz.func19 ?_
 (repeat'(first|apply kA|apply kB|((first|refine kc (N:=71) ?_|refine kj (N:=71) kq24 ?_|apply kD|apply kE);simp +decide only[go_sem,lngRow])|(apply kG;(simp +decide only[go_sem,lngRow];rfl);all_goals(intro hcnd;try exact kz hcnd))|((first|apply kH|apply kI)<;>(intro hcnd;simp +decide only[go_sem,hcnd,lngRow]))))
 refine kK (sub_zero 3 1000 1 (.inl (by simp +decide only[go_sem]))) ?_
 refine kK (sub_zero 4 1001 1 (.inl (by simp +decide only[go_sem]))) ?_
 refine dw_rng d.lex (fun k (y:Nat×Nat)=>kn 71 [(1,.one (.bx 1 9 0 0)),(3,.one (.ba 1000 1 0 k (k+y.1))),(4,.one (.ba 1001 1 0 k (k+y.2))),(10,dv (.sl 8 (d.lex.map Ent.enc))),(11,dv (li d.lex.length)),(12,dv (li k))]
   (ml [(1,[lngRow x d]),(1000,idA (d.accK k)++anyRows y.1 1),(1001,keyA d (d.accK k)++anyRows y.2 1)]))
  (fun _ _=>True) (0,0) (by omega) ?_ trivial ?_ ?_
 ·exact kM rfl (by simp +decide only[go_sem,lngRow,accK_zero,List.map_nil,List.length_cons,List.length_nil]) (by simp +decide only[go_sem,lngRow,accK_zero,sRows,iRows,List.map_nil])
 ·rintro k e ⟨j1,j2⟩ he hk hm ht hlt hw _
  have hS:=spelled_D x hd e.form (by have:=hd.frm e hm;omega)
  have hsl:=sp_le hd e.form
  have hfl:=hd.frm e hm
  have hs32:e.form.length*32≤3*32:=Nat.mul_le_mul_right _ hfl
  simp only[lngRow]at hS
  have hal:=accK_len (d:=d) (k:=k) (by omega)
  have hst:=accK_succ he
  have hmk: ∀y∈d.accK k,y∈d.lex:=fun y hy=>accK_mem hy
  rw[hst]
  generalize d.accK k=acc at hal hmk ⊢
  (repeat'(first|apply kA|apply kB|((first|refine kc (N:=71) ?_|refine kj (N:=71) kq24 ?_|apply kD|apply kE|refine kx hS ?_);simp +decide only[go_sem,hlt,he,Ent.enc,lngRow])|(apply kG;(simp +decide only[go_sem,hlt,he,Ent.enc,lngRow];rfl);all_goals(intro hcnd;try exact kz hcnd))|((first|apply kH|apply kI)<;>(intro hcnd;simp +decide only[go_sem,hcnd,hlt,he,Ent.enc,lngRow]))))
  refine dw_after (fun _:Unit=>kn 71 [(1,.one (.bx 1 9 0 0)),(3,.one (.ba 1000 1 0 k (k+j1))),(4,.one (.ba 1001 1 0 k (k+j2))),(6,.one (.bx 6 8 0 0)),(7,dv (ls (d.sp e.form))),(8,dv (li (backN (fun y=>decide (d.cmp e y<0)) acc k))),(10,dv (.sl 8 (d.lex.map Ent.enc))),(11,dv (li d.lex.length)),(12,dv (li k))]
   (ml [(1,[lngRow x d]),(6,[e.row]),(1000,idA acc++anyRows j1 1),(1001,keyA d acc++anyRows j2 1)])) (fun _=>True) ?_ ?_
  ·refine dw_loop_fam (fun i:Nat=>kn 71 [(1,.one (.bx 1 9 0 0)),(3,.one (.ba 1000 1 0 k (k+j1))),(4,.one (.ba 1001 1 0 k (k+j2))),(6,.one (.bx 6 8 0 0)),(7,dv (ls (d.sp e.form))),(8,dv (li i)),(10,dv (.sl 8 (d.lex.map Ent.enc))),(11,dv (li d.lex.length)),(12,dv (li k))]
    (ml [(1,[lngRow x d]),(6,[e.row]),(1000,idA acc++anyRows j1 1),(1001,keyA d acc++anyRows j2 1)])) (fun i=>i≤k∧backN (fun y=>decide (d.cmp e y<0)) acc k=backN (fun y=>decide (d.cmp e y<0)) acc i) (fun i=>i) k (kM rfl (by simp +decide only[go_sem,lngRow,Ent.row]) (by simp +decide only[go_sem,lngRow,Ent.row])) ⟨Nat.le_refl _,rfl⟩ ?_
   rintro i ⟨hik,hbk⟩
   rw[hbk]
   cases i with
   | zero=>
    have t1:((0:Int)<((0:Nat):Int))=False:=by simp
    (repeat'(first|apply kA|apply kB|((first|refine kc (N:=71) ?_|refine kj (N:=71) kq24 ?_|apply kD|apply kE);simp +decide only[go_sem,t1,lngRow,Ent.row])|(apply kG;(simp +decide only[go_sem,t1,lngRow,Ent.row];rfl);all_goals(intro hcnd;try exact kz hcnd))|((first|apply kH|apply kI)<;>(intro hcnd;simp +decide only[go_sem,hcnd,t1,lngRow,Ent.row]))))
    exact⟨(),kM rfl (by simp +decide only[go_sem,backN,lngRow,Ent.row]) (by simp +decide only[go_sem,lngRow,Ent.row])⟩
   | succ n=>
    obtain⟨y,hy⟩: ∃y,acc[n]? =some y:=⟨acc[n]'(by omega),List.getElem?_eq_getElem (by omega)⟩
    have hym:=hmk y (List.mem_of_getElem? hy)
    have hyl:=sp_le hd y.form
    have hyf:=hd.frm y hym
    have hy32:y.form.length*32≤3*32:=Nat.mul_le_mul_right _ hyf
    have hC:=cCompare_D x.nm d.units d.letters (d.sp e.form) (d.sp y.form) (by have:=hd.llen;omega) hd.lll (by omega) (by omega)
    simp only[ortRow]at hC
    have hrow:(keyA d acc++anyRows j2 1)[n]? =some [T.c (ls (d.sp y.form))]:=by
     rw[List.getElem?_append_left (by rw[sRows_len,List.length_map];omega)]
     simp[sRows,hy]
    have w1:IntKind.i64.wrap (((n+1:Nat):Int) - 1)=(n:Int):=by rw[wrap_i64 (by omega) (by omega)];omega
    have t3:(n<k)=True:=by simp;omega
    have t1:((0:Int)<((n+1:Nat):Int))=True:=eq_true (by omega)
    have hcmp:cmpK (keyE d.letters (d.sp e.form)) (keyE d.letters (d.sp y.form))=d.cmp e y:=rfl
    rw[hcmp]at hC
    have hbe:backN (fun y=>decide (d.cmp e y<0)) acc (n+1)=if decide (d.cmp e y<0)=true then backN (fun y=>decide (d.cmp e y<0)) acc n else n+1:=by simp only[backN,hy]
    cases t2:decide (d.cmp e y<0)
    ·rw[t2,if_neg (by decide)]at hbe
     (repeat'(first|apply kA|apply kB|((first|refine kc (N:=71) ?_|refine kj (N:=71) kq24 ?_|apply kD|apply kE|refine kx hC ?_);simp +decide only[go_sem,t1,w1,t2,t3,hrow,lngRow,Ent.row])|(apply kG;(simp +decide only[go_sem,t1,w1,t2,t3,hrow,lngRow,Ent.row];rfl);all_goals(intro hcnd;try exact kz hcnd))|((first|apply kH|apply kI)<;>(intro hcnd;simp +decide only[go_sem,hcnd,t1,w1,t2,t3,hrow,lngRow,Ent.row]))))
     exact⟨(),kM rfl (by simp +decide only[go_sem,hbe,lngRow,Ent.row]) (by simp +decide only[go_sem,lngRow,Ent.row])⟩
    ·rw[t2,if_pos rfl]at hbe
     (repeat'(first|apply kA|apply kB|((first|refine kc (N:=71) ?_|refine kj (N:=71) kq24 ?_|apply kD|apply kE|refine kx hC ?_);simp +decide only[go_sem,t1,w1,t2,t3,hrow,lngRow,Ent.row])|(apply kG;(simp +decide only[go_sem,t1,w1,t2,t3,hrow,lngRow,Ent.row];rfl);all_goals(intro hcnd;try exact kz hcnd))|((first|apply kH|apply kI)<;>(intro hcnd;simp +decide only[go_sem,hcnd,t1,w1,t2,t3,hrow,lngRow,Ent.row]))))
     exact⟨n,⟨by omega,hbe⟩,by omega,kM rfl (by simp +decide only[go_sem,w1,lngRow,Ent.row]) (by simp +decide only[go_sem,lngRow,Ent.row])⟩
  rintro _ _
  have hpl:=backN_le (fun y=>decide (d.cmp e y<0)) acc k
  have hpb:putBack (fun y=>decide (d.cmp e y<0)) acc e=acc.take (backN (fun y=>decide (d.cmp e y<0)) acc k)++e::acc.drop (backN (fun y=>decide (d.cmp e y<0)) acc k):=by unfold putBack;rw[hal]
  rw[hpb]
  generalize backN (fun y=>decide (d.cmp e y<0)) acc k=p at hpl ⊢
  clear hpb hst
  have hil:(idA acc).length=k:=by rw[iRows_len,List.length_map,hal]
  have hkl:(keyA d acc).length=k:=by rw[sRows_len,List.length_map,hal]
  have w1:IntKind.i64.wrap ((p:Int)+1)=((p+1:Nat):Int):=by rw[wrap_i64 (by omega) (by omega)];omega
  (repeat'(first|apply kA|apply kB|((first|refine kc (N:=71) ?_|refine kj (N:=71) kq24 ?_|apply kD|apply kE);simp +decide only[go_sem,lngRow,Ent.row])|(refine dw_condT ?_ ?_;focus (simp +decide only[go_sem,lngRow,Ent.row];done))|(refine dw_condF ?_ ?_;focus (simp +decide only[go_sem,lngRow,Ent.row];done))|((first|apply kH|apply kI)<;>(intro hcnd;simp +decide only[go_sem,hcnd,lngRow,Ent.row]))))
  refine StepC.mk (Step.appendList (n:=1000) (sz:=1) (by_:=8) (rows:=idA acc) (j:=j1) (ys:= [[T.c (li 0)]]) rfl rfl (by simp +decide only[go_sem,hil]) (by simp +decide only[go_sem,hil]) (by simp +decide only[go_sem,lngRow,Ent.row]) (iRows_sz _) (srcEx (ys:= [[li 0]]) (by simp +decide only[go_sem])) (by simp only[hil,List.length_cons,List.length_nil];omega) ?_)
  intro j3
  simp +decide only[go_sem,hil,lngRow,Ent.row]
  (repeat'(first|apply kA|apply kB|((first|refine kc (N:=71) ?_|refine kj (N:=71) kq24 ?_|apply kD|apply kE);simp +decide only[go_sem,lngRow,Ent.row])|(refine dw_condT ?_ ?_;focus (simp +decide only[go_sem,lngRow,Ent.row];done))|(refine dw_condF ?_ ?_;focus (simp +decide only[go_sem,lngRow,Ent.row];done))|((first|apply kH|apply kI)<;>(intro hcnd;simp +decide only[go_sem,hcnd,lngRow,Ent.row]))))
  refine StepC.mk (Step.appendList (n:=1001) (sz:=1) (by_:=16) (rows:=keyA d acc) (j:=j2) (ys:= [[T.c (ls { data:= #[] })]]) rfl rfl (by simp +decide only[go_sem,hkl]) (by simp +decide only[go_sem,hkl]) (by simp +decide only[go_sem,lngRow,Ent.row]) (sRows_sz _) (srcEx (ys:= [[ls { data:= #[] }]]) (by simp +decide only[go_sem])) (by simp only[hkl,List.length_cons,List.length_nil];omega) ?_)
  intro j4
  simp +decide only[go_sem,hkl,lngRow,Ent.row]
  have hp1:(p≤k∧k+1≤k+1+j3)=True:=by simp;omega
  have hp2:(p≤k∧k+1≤k+1+j4)=True:=by simp;omega
  have hp3:(p≤k+1∧k+1≤k+1+j3)=True:=by simp;omega
  have hp4:(p≤k+1∧k+1≤k+1+j4)=True:=by simp;omega
  obtain⟨G1,g1,g2,⟨r1,g3,g4⟩,g5⟩:=ins_rows (idA acc) [T.c (li 0)] (anyRows j3 1) hpl hil
  obtain⟨G2,u1,u2,⟨r2,u3,u4⟩,u5⟩:=ins_rows (keyA d acc) [T.c (ls { data:= #[] })] (anyRows j4 1) hpl hkl
  (repeat'(first|apply kA|apply kB|((first|refine kc (N:=71) ?_|refine kj (N:=71) kq24 ?_|apply kD|apply kE);simp +decide only[go_sem,w1,hp1,hp2,hp3,hp4,lngRow,Ent.row])|(refine dw_condT ?_ ?_;focus (simp +decide only[go_sem,w1,hp1,hp2,hp3,hp4,lngRow,Ent.row];done))|(refine dw_condF ?_ ?_;focus (simp +decide only[go_sem,w1,hp1,hp2,hp3,hp4,lngRow,Ent.row];done))|((first|apply kH|apply kI)<;>(intro hcnd;simp +decide only[go_sem,hcnd,w1,hp1,hp2,hp3,hp4,lngRow,Ent.row]))))
  have hz1:RowsSz 1 (idA acc++ [T.c (li 0)]::anyRows j3 1):=fun r hr=>by
   simp only[List.mem_append,List.mem_cons]at hr
   rcases hr with h|rfl|h
   ·exact iRows_sz _ r h
   ·rfl
   ·exact anyRows_sz _ 1 r h
  have hz2:RowsSz 1 (keyA d acc++ [T.c (ls { data:= #[] })]::anyRows j4 1):=fun r hr=>by
   simp only[List.mem_append,List.mem_cons]at hr
   rcases hr with h|rfl|h
   ·exact sRows_sz _ r h
   ·rfl
   ·exact anyRows_sz _ 1 r h
  have hl1:(idA acc++ [T.c (li 0)]::anyRows j3 1).length=k+1+j3:=by simp only[List.length_append,List.length_cons,anyRows_len,hil];omega
  have hl2:(keyA d acc++ [T.c (ls { data:= #[] })]::anyRows j4 1).length=k+1+j4:=by simp only[List.length_append,List.length_cons,anyRows_len,hkl];omega
  have hc1:(((((idA acc++ [T.c (li 0)]::anyRows j3 1).drop p).take (k+1 - p)).take (k+1 - (p+1))).length)=k - p:=by simp only[List.length_take,List.length_drop,hl1];omega
  have hc2:(((((keyA d acc++ [T.c (ls { data:= #[] })]::anyRows j4 1).drop p).take (k+1 - p)).take (k+1 - (p+1))).length)=k - p:=by simp only[List.length_take,List.length_drop,hl2];omega
  refine StepC.mk (Step.copyTo (n:=40) (sz:=1) (i:=p+1) (len:=k+1 - (p+1)) (cap:=k+1+j3 - (p+1)) (ys:=((idA acc++ [T.c (li 0)]::anyRows j3 1).drop p).take (k+1 - p)) (rows:=idA acc++ [T.c (li 0)]::anyRows j3 1) (rows':=G1) (c:=k - p)
   rfl (by simp +decide only[go_sem]) (by simp +decide only[go_sem]) (by simp +decide only[go_sem]) (by rw[hl1];omega) hz1
   (srcBa (n:=40) (i:=p) (len:=k+1 - p) (cap:=k+1+j3 - p) (by simp +decide only[go_sem]) (by simp +decide only[go_sem]) (by rw[hl1];omega) hz1 rfl) hc1 g1 ?_)
  simp +decide only[go_sem]
  (repeat'(first|apply kA|apply kB|((first|refine kc (N:=71) ?_|refine kj (N:=71) kq24 ?_|apply kD|apply kE);simp +decide only[go_sem,w1,hp1,hp2,hp3,hp4,lngRow,Ent.row])|(refine dw_condT ?_ ?_;focus (simp +decide only[go_sem,w1,hp1,hp2,hp3,hp4,lngRow,Ent.row];done))|(refine dw_condF ?_ ?_;focus (simp +decide only[go_sem,w1,hp1,hp2,hp3,hp4,lngRow,Ent.row];done))|((first|apply kH|apply kI)<;>(intro hcnd;simp +decide only[go_sem,hcnd,w1,hp1,hp2,hp3,hp4,lngRow,Ent.row]))))
  refine StepC.mk (Step.copyTo (n:=43) (sz:=1) (i:=p+1) (len:=k+1 - (p+1)) (cap:=k+1+j4 - (p+1)) (ys:=((keyA d acc++ [T.c (ls { data:= #[] })]::anyRows j4 1).drop p).take (k+1 - p)) (rows:=keyA d acc++ [T.c (ls { data:= #[] })]::anyRows j4 1) (rows':=G2) (c:=k - p)
   rfl (by simp +decide only[go_sem]) (by simp +decide only[go_sem]) (by simp +decide only[go_sem]) (by rw[hl2];omega) hz2
   (srcBa (n:=43) (i:=p) (len:=k+1 - p) (cap:=k+1+j4 - p) (by simp +decide only[go_sem]) (by simp +decide only[go_sem]) (by rw[hl2];omega) hz2 rfl) hc2 u1 ?_)
  simp +decide only[go_sem]
  have hp5:(p<k+1)=True:=by simp;omega
  have hr1:r1.length=1:=hz1 _ g4
  have hr2:r2.length=1:=hz2 _ u4
  (repeat'(first|apply kA|apply kB|((first|refine kc (N:=71) ?_|refine kj (N:=71) kq24 ?_|apply kD|apply kE);simp +decide only[go_sem,w1,hp1,hp2,hp3,hp4,hp5,g3,u3,hr1,hr2,lngRow,Ent.row])|(refine dw_condT ?_ ?_;focus (simp +decide only[go_sem,w1,hp1,hp2,hp3,hp4,hp5,g3,u3,hr1,hr2,lngRow,Ent.row];done))|(refine dw_condF ?_ ?_;focus (simp +decide only[go_sem,w1,hp1,hp2,hp3,hp4,hp5,g3,u3,hr1,hr2,lngRow,Ent.row];done))|((first|apply kH|apply kI)<;>(intro hcnd;simp +decide only[go_sem,hcnd,w1,hp1,hp2,hp3,hp4,hp5,g3,u3,hr1,hr2,lngRow,Ent.row]))))
  have hd1:List.drop 1 r1= []:=List.drop_eq_nil_of_le (by omega)
  have hd2:List.drop 1 r2= []:=List.drop_eq_nil_of_le (by omega)
  have w2:IntKind.i64.wrap ((k:Int)+1)=((k+1:Nat):Int):=by rw[wrap_i64 (by omega) (by omega)];omega
  have q3:(idA acc).take p=idA (acc.take p):=by simp[iRows,List.map_take]
  have q4:(idA acc).drop p=idA (acc.drop p):=by simp[iRows,List.map_drop]
  have q5:(keyA d acc).take p=keyA d (acc.take p):=by simp[sRows,List.map_take]
  have q6:(keyA d acc).drop p=keyA d (acc.drop p):=by simp[sRows,List.map_drop]
  rw[hd1,hd2,w2,g5,u5,q3,q4,q5,q6]
  have q1:idA (acc.take p++e::acc.drop p)++anyRows j3 1=idA (acc.take p)++ [T.c (li e.id)]::(idA (acc.drop p)++anyRows j3 1):=by
   simp[iRows,List.map_take,List.map_drop]
  have q2:keyA d (acc.take p++e::acc.drop p)++anyRows j4 1=keyA d (acc.take p)++ [T.c (ls (d.sp e.form))]::(keyA d (acc.drop p)++anyRows j4 1):=by
   simp[sRows,List.map_take,List.map_drop]
  refine⟨(j3,j4),DS.Sub.trans (sub_mv 40 1000 (by decide)) (DS.Sub.trans (sub_mv 43 1001 (by decide)) ?_)⟩
  rw[q1,q2]
  exact kM rfl (by simp +decide only[go_sem,lngRow]) (by simp +decide only[go_sem,lngRow])
 ·rintro⟨j1,j2⟩ _ _
  rw[accK_all hd.up]
  have hlen:=ord_len d
  have hia:(idA d.ord).length=d.lex.length:=by rw[iRows_len,List.length_map,hlen]
  have hii:d.lex.length≤(ints (d.ord.map (·.id))).length:=by simp[ints,hlen]
  have htk:(ints (d.ord.map (·.id))).take d.lex.length=ints (d.ord.map (·.id)):=List.take_of_length_le (by simp[ints,hlen])
  have hic:idA d.ord=List.map (List.map T.c) (ints (d.ord.map (·.id))):=by simp[iRows,ints]
  refine dw_frz 1000 1 (ints (d.ord.map (·.id))) (anyRows j1 1) (by decide) (by simp +decide only[go_sem,hic]) (by simp[ints]) ?_
  have t1:((d.lex.length:Int)<(d.lex.length:Int))=False:=by simp
  (repeat'(first|apply kA|apply kB|((first|refine kc (N:=71) ?_|refine kj (N:=71) kq24 ?_|apply kD|apply kE);simp +decide only[go_sem,t1,htk,lngRow])|(apply kG;(simp +decide only[go_sem,t1,htk,lngRow];rfl);all_goals(intro hcnd;try exact kz hcnd))|((first|apply kH|apply kI)<;>(intro hcnd;simp +decide only[go_sem,hcnd,t1,htk,lngRow]))))
  have hlo:d.lex.length≤d.ord.length:=by omega
  apply kF;simp +decide only[go_sem,hlo]
end Go.Proofs.YtehdkccjaeckhaaGreatDoor
namespace Go.Proofs.YtehdkccjaeckhaaGreatDoor
open Go.Dl
open S (usort)
def orN(f:Nat→Int):Nat→Int
 | 0=>0
 | n+1=>if orN f n=0 then f n else orN f n
theorem orN_pre{f:Nat→Int}: ∀{n:Nat},(∀j,j<n→f j=0)→orN f n=0
 | 0,_=>rfl
 | n+1,h=>by
  simp only[orN]
  rw[if_pos (orN_pre fun j hj=>h j (by omega))]
  exact h n (by omega)
theorem orN_stay{f:Nat→Int}{m:Nat}(hm:orN f m≠0): ∀d,orN f (m+d)=orN f m
 | 0=>rfl
 | d+1=>by
  show(if orN f (m+d)=0 then f (m+d)else orN f (m+d))=orN f m
  rw[orN_stay hm d,if_neg hm]
theorem orN_at{f:Nat→Int}{n k:Nat}(hk:k<n)(h: ∀j,j<k→f j=0)(h0:f k≠0):orN f n=f k:=by
 have e:orN f (k+1)=f k:=by simp only[orN];rw[if_pos (orN_pre h)]
 have:=orN_stay (f:=f) (m:=k+1) (by rw[e];exact h0) (n - (k+1))
 rw[show k+1+(n - (k+1))=n by omega]at this
 rw[this,e]
theorem orN_zero{f:Nat→Int}: ∀{n:Nat},orN f n=0→∀j,j<n→f j=0
 | 0,_,j,hj=>absurd hj (Nat.not_lt_zero _)
 | n+1,h,j,hj=>by
  simp only[orN]at h
  by_cases h0:orN f n=0
  ·rw[if_pos h0]at h
   rcases Nat.lt_or_ge j n with h1|h1
   ·exact orN_zero h0 j h1
   ·have:j=n:=by omega
    rw[this];exact h
  ·rw[if_neg h0]at h;exact absurd h h0
theorem pre_succ{f:Nat→Int}{k:Nat}(h: ∀j,j<k→f j=0)(h0:f k=0): ∀j,j<k+1→f j=0:=fun j hj=>by
 rcases Nat.lt_or_ge j k with h1|h1
 ·exact h j h1
 ·have:j=k:=by omega
  rw[this];exact h0
def byteN(s:ByteArray)(i:Nat):Nat:=((s.data.toList[i]?).map UInt8.toNat).getD 0
def blankB(s:ByteArray):Bool:=s.data.toList.any fun b=>b==32
def labB(s:ByteArray):Bool:= !blankB s&&labelB s
theorem labB_size{s:ByteArray}(h:labB s=true):s.size≠0∧s.size≤32:=by
 unfold labB labelB at h
 simp only[Bool.and_eq_true,Bool.not_eq_true',beq_eq_false_iff_ne,decide_eq_false_iff_not]at h
 omega
theorem labelB_size{s:ByteArray}(h:labelB s=true):s.size≠0∧s.size≤32:=by
 unfold labelB at h
 simp only[Bool.and_eq_true,Bool.not_eq_true',beq_eq_false_iff_ne,decide_eq_false_iff_not]at h
 omega
def segBad(g:List Phon)(n:Int):Bool:=decide (n<1)||decide ((g.length:Int)<n)
def unitE(g:List Phon)(us:List Unt)(i:Nat):Int:=match us[i]? with
 | none=>0
 | some u=>if labB u.graph=false then 3 else if((us.take i).any fun v=>v.graph==u.graph)=true then 8 else if u.segs.length<1∨3<u.segs.length then 19 else if(u.segs.any (segBad g))=true then 19 else 0
def varsE(seen:List ByteArray):List ByteArray→Int
 | []=>0
 | s::r=>if labB s=false then 3 else if(seen.any fun t=>t==s)=true then 8 else varsE (seen++ [s]) r
def lettE(seen:List ByteArray):List (List ByteArray)→Int
 | []=>0
 | l::r=>if l= []then 4 else if varsE seen l≠0 then varsE seen l else lettE (seen++l) r
def nameOk(s:ByteArray)(i:Nat):Bool:=(decide (97≤byteN s i)&&decide (byteN s i≤122))||(!(i==0)&&(byteN s i==45||(byteN s i==95||(decide (48≤byteN s i)&&decide (byteN s i≤57)))))
def nameB(s:ByteArray):Bool:=(List.range s.size).all (nameOk s)&&(decide (1≤s.size)&&decide (s.size≤32))
def orthE(g:List Phon)(nm:ByteArray)(us:List Unt)(lt:List (List ByteArray)):Int:=
 if nameB nm=false then 7 else if 100<us.length then 11 else if orN (unitE g us) us.length≠0 then orN (unitE g us) us.length else if 100<lt.length then 11 else lettE [] lt
theorem varsE_lab: ∀{l seen:List ByteArray},varsE seen l=0→∀s∈l,labB s=true
 | [],_,_,s,hs=>absurd hs (by simp)
 | a::l,seen,h,s,hs=>by
  simp only[varsE]at h
  by_cases h1:labB a=false
  ·rw[if_pos h1]at h;exact absurd h (by decide)
  ·rw[if_neg h1]at h
   split at h
   ·exact absurd h (by decide)
   ·rcases List.mem_cons.1 hs with rfl|hs
    ·simpa using h1
    ·exact varsE_lab h s hs
theorem lettE_ok: ∀{l:List (List ByteArray)} {seen:List ByteArray},lettE seen l=0→(∀v∈l,v≠ [])∧∀v∈l,∀s∈v,labB s=true
 | [],_,_=>by simp
 | a::l,seen,h=>by
  simp only[lettE]at h
  by_cases h1:a= []
  ·rw[if_pos h1]at h;exact absurd h (by decide)
  ·rw[if_neg h1]at h
   by_cases h2:varsE seen a≠0
   ·rw[if_pos h2]at h;exact absurd h h2
   ·rw[if_neg h2]at h
    obtain⟨h3,h4⟩:=lettE_ok h
    have h5:=varsE_lab (show varsE seen a=0 by simpa using h2)
    constructor
    ·intro v hv
     rcases List.mem_cons.1 hv with rfl|hv
     ·exact h1
     ·exact h3 v hv
    ·intro v hv
     rcases List.mem_cons.1 hv with rfl|hv
     ·exact h5
     ·exact h4 v hv
theorem unitE_ok{g:List Phon}{us:List Unt}{i:Nat}{u:Unt}(hu:us[i]? =some u)(h:unitE g us i=0):labB u.graph=true∧1≤u.segs.length∧u.segs.length≤3:=by
 unfold unitE at h
 rw[hu]at h
 simp only at h
 by_cases h1:labB u.graph=false
 ·rw[if_pos h1]at h;exact absurd h (by decide)
 ·rw[if_neg h1]at h
  split at h
  ·exact absurd h (by decide)
  ·split at h
   ·exact absurd h (by decide)
   ·rename_i h3
    exact⟨by simpa using h1,by omega,by omega⟩
theorem orthE_ok{g:List Phon}{nm:ByteArray}{us:List Unt}{lt:List (List ByteArray)}(h:orthE g nm us lt=0):
  us.length≤100∧lt.length≤100∧(∀u∈us,labB u.graph=true∧1≤u.segs.length∧u.segs.length≤3)∧(∀v∈lt,v≠ [])∧∀v∈lt,∀s∈v,labB s=true:=by
 unfold orthE at h
 by_cases h1:nameB nm=false
 ·rw[if_pos h1]at h;exact absurd h (by decide)
 rw[if_neg h1]at h
 by_cases h2:100<us.length
 ·rw[if_pos h2]at h;exact absurd h (by decide)
 rw[if_neg h2]at h
 by_cases h3:orN (unitE g us) us.length≠0
 ·rw[if_pos h3]at h;exact absurd h h3
 rw[if_neg h3]at h
 by_cases h4:100<lt.length
 ·rw[if_pos h4]at h;exact absurd h (by decide)
 rw[if_neg h4]at h
 obtain⟨h5,h6⟩:=lettE_ok h
 refine⟨by omega,by omega,fun u hu=>?_,h5,h6⟩
 obtain⟨i,hi⟩:=List.mem_iff_getElem?.1 hu
 exact unitE_ok hi (orN_zero (by simpa using h3) i (List.getElem?_eq_some_iff.1 hi).1)
structure Rul where
 src:List Int
 dst:List Int
 left:List Lnk
 right:List Lnk
 beg:Bool
 fin:Bool
def Rul.enc(r:Rul):List C:= [.sl 1 (ints r.src),.sl 1 (ints r.dst),.sl 2 (r.left.map Lnk.enc),.sl 2 (r.right.map Lnk.enc),lb r.beg,lb r.fin]
def Rul.row(r:Rul):List T:= [.c (.sl 1 (ints r.src)),.c (.sl 1 (ints r.dst)),.c (.sl 2 (r.left.map Lnk.enc)),.c (.sl 2 (r.right.map Lnk.enc)),.c (lb r.beg),.c (lb r.fin)]
def pairBad(g:List Phon)(a b:Int):Bool:= !segOk g a||(b !=0&& !segOk g b)
def rulE(g:List Phon)(r:Rul):Int:=if r.src.length=0∨r.dst.length≠r.src.length then 1 else if((r.src.zip r.dst).any fun p=>pairBad g p.1 p.2)=true then 19
 else if(usort r.src).length≠r.src.length then 8 else if 2<r.left.length∨2<r.right.length then 5 else 0
def rulsE(g:List Phon)(l:List Rul):Int:=if 12<l.length then 11 else orN (fun i=>((l[i]?).map (rulE g)).getD 0) l.length
structure Stp where
 src:Int
 cls:Int
 dst:Int
 deriving DecidableEq
def Stp.enc(x:Stp):List C:= [li x.src,li x.cls,li x.dst]
def Stp.row(x:Stp):List T:= [.c (li x.src),.c (li x.cls),.c (li x.dst)]
def stBad(n:Int)(q:Int):Bool:= !(decide (0≤q)&&decide (q<n))
def stpE(n:Int)(l:List Stp)(i:Nat):Int:=match l[i]? with
 | none=>0
 | some x=>if(stBad n x.src||stBad n x.dst)=true then 2 else if x.cls<1∨20<x.cls then 21 else if((l.take i).any fun y=>decide (y=x))=true then 8 else 0
def netE(n:Int)(l:List Stp)(f:List Int):Int:=if n<1∨24<n then 2 else if 200<l.length then 11 else if orN (stpE n l) l.length≠0 then orN (stpE n l) l.length
 else if((List.range f.length).any fun i=> !(i==0)&&decide ((f[i]?).getD 0≤(f[i - 1]?).getD 0))=true then 10 else if(f.any (stBad n))=true then 2 else 0
def mainsE(l:List Ent):Int:=if(l.any fun e=>e.main !=0&&decide (idxF (fun x=>x.id==e.main) l<0))=true then 9 else if(l.any fun e=>decide (l.length<(wayI l e.id).length))=true then 17 else 0
def entBig(e:Ent):Bool:=decide (3<e.form.length)||(decide (1<e.alts.length)||e.alts.any fun w=>decide (3<w.length))
def smallB(l:List Ent):Bool:= !decide (5<l.length)&&l.all fun e=> !entBig e
structure Lng where
 d:Dic
 nm:ByteArray
 rules:List Rul
 states:Int
 steps:List Stp
 fin:List Int
def Lng.x(g:Lng):LX:=⟨g.nm,.sl 6 (g.rules.map Rul.enc),li g.states,.sl 3 (g.steps.map Stp.enc),.sl 1 (ints g.fin)⟩
end Go.Proofs.YtehdkccjaeckhaaGreatDoor
namespace Go.Proofs.YtehdkccjaeckhaaGreatDoor
open Go.Dl
open S (usort)
attribute [local irreducible] DW DCalls ECalls wk IW
theorem name_bad{s:ByteArray}{k:Nat}(hk:k<s.size)(h:nameOk s k=false):nameB s=false:=by
 unfold nameB
 rw[show (List.range s.size).all (nameOk s)=false from List.all_eq_false.2 ⟨k,List.mem_range.2 hk,by simp[h]⟩]
 rfl
theorem name_all{s:ByteArray}(h: ∀j,j<s.size→nameOk s j=true):nameB s=(decide (1≤s.size)&&decide (s.size≤32)):=by
 unfold nameB
 rw[show (List.range s.size).all (nameOk s)=true from List.all_eq_true.2 fun j hj=>h j (List.mem_range.1 hj)]
 rfl
theorem byteN_at{s:ByteArray}{k:Nat}{b:UInt8}(h:s.data.toList[k]? =some b):byteN s k=b.toNat:=by unfold byteN;rw[h];rfl
theorem rName10_D(s:ByteArray)(hs:s.size≤1048576):DCalls Tryz.prog 97 [dv (ls s)] (dv (lb (nameB s))):=by
 have hmax:maxLen=9223372036854775807:=rfl
 have hsz:=sz_list s
 refine kd (N:=59) (rs:= [.tmp 2]) Tryz.func97 ?_
 (repeat'(first|apply kA|apply kB|((first|refine kc (N:=59) ?_|apply kD|apply kE);simp +decide only[go_sem])|(apply kG;(simp +decide only[go_sem];rfl);all_goals(intro hcnd;try exact kz hcnd))|((first|apply kH|apply kI)<;>(intro hcnd;simp +decide only[go_sem,hcnd]))))
 refine dw_rngI s.data.toList (fun k=>kn 59 [(0,dv (ls s)),(3,dv (li k))] noMem) (fun k=>∀j,j<k→nameOk s j=true) (by omega) (kL rfl (by simp +decide only[go_sem]) (by simp[noMem])) (by simp) ?_ ?_
 ·intro k e he hk hm htk hlt hw hi
  rw[hsz]at hlt
  have hb:=byteN_at he
  have hok:nameOk s k=((decide (97≤e.toNat)&&decide (e.toNat≤122))||(!(k==0)&&(e.toNat==45||(e.toNat==95||(decide (48≤e.toNat)&&decide (e.toNat≤57)))))):=by unfold nameOk;rw[hb]
  have hks:k<s.size:=by omega
  have step:nameOk s k=true→∀j,j<k+1→nameOk s j=true:=fun h j hj=>by
   rcases Nat.lt_or_ge j k with h9|h9
   ·exact hi j h9
   ·have h10:j=k:=by omega
    rw[h10];exact h
  rcases Bool.eq_false_or_eq_true (decide ((97:Int)≤((e.toNat:Nat):Int)))with c1|c1
  ·skip
   rcases Bool.eq_false_or_eq_true (decide (((e.toNat:Nat):Int)≤122))with c2|c2
   ·skip
    (repeat'(first|apply kA|apply kB|((first|refine kc (N:=59) ?_|apply kD|apply kE|apply kF);simp +decide only[go_sem,hlt,hw,he,c1,c2,Int.toNat_natCast])|(apply kG;(simp +decide only[go_sem,hlt,hw,he,c1,c2,Int.toNat_natCast];rfl);all_goals(intro hcnd;try exact kz hcnd))|((first|apply kH|apply kI)<;>(intro hcnd;simp +decide only[go_sem,hcnd,hlt,hw,he,c1,c2,Int.toNat_natCast]))))
    exact⟨step (by rw[hok];simp at *;omega),kL rfl (by simp +decide only[go_sem]) (by simp[noMem])⟩
   rcases Bool.eq_false_or_eq_true (((k:Int)==0))with c3|c3
   ·skip
    (repeat'(first|apply kA|apply kB|((first|refine kc (N:=59) ?_|apply kD|apply kE|apply kF);simp +decide only[go_sem,hlt,hw,he,c1,c2,c3,Int.toNat_natCast])|(apply kG;(simp +decide only[go_sem,hlt,hw,he,c1,c2,c3,Int.toNat_natCast];rfl);all_goals(intro hcnd;try exact kz hcnd))|((first|apply kH|apply kI)<;>(intro hcnd;simp +decide only[go_sem,hcnd,hlt,hw,he,c1,c2,c3,Int.toNat_natCast]))))
    rw[name_bad hks (by rw[hok];simp at *;omega)]
   rcases Bool.eq_false_or_eq_true ((((e.toNat:Nat):Int)!=45))with c4|c4
   rotate_left
   ·skip
    (repeat'(first|apply kA|apply kB|((first|refine kc (N:=59) ?_|apply kD|apply kE|apply kF);simp +decide only[go_sem,hlt,hw,he,c1,c2,c3,c4,Int.toNat_natCast])|(apply kG;(simp +decide only[go_sem,hlt,hw,he,c1,c2,c3,c4,Int.toNat_natCast];rfl);all_goals(intro hcnd;try exact kz hcnd))|((first|apply kH|apply kI)<;>(intro hcnd;simp +decide only[go_sem,hcnd,hlt,hw,he,c1,c2,c3,c4,Int.toNat_natCast]))))
    exact⟨step (by rw[hok];simp at *;omega),kL rfl (by simp +decide only[go_sem]) (by simp[noMem])⟩
   rcases Bool.eq_false_or_eq_true ((((e.toNat:Nat):Int)!=95))with c5|c5
   rotate_left
   ·skip
    (repeat'(first|apply kA|apply kB|((first|refine kc (N:=59) ?_|apply kD|apply kE|apply kF);simp +decide only[go_sem,hlt,hw,he,c1,c2,c3,c4,c5,Int.toNat_natCast])|(apply kG;(simp +decide only[go_sem,hlt,hw,he,c1,c2,c3,c4,c5,Int.toNat_natCast];rfl);all_goals(intro hcnd;try exact kz hcnd))|((first|apply kH|apply kI)<;>(intro hcnd;simp +decide only[go_sem,hcnd,hlt,hw,he,c1,c2,c3,c4,c5,Int.toNat_natCast]))))
    exact⟨step (by rw[hok];simp at *;omega),kL rfl (by simp +decide only[go_sem]) (by simp[noMem])⟩
   rcases Bool.eq_false_or_eq_true (decide (((e.toNat:Nat):Int)<48))with c6|c6
   ·skip
    (repeat'(first|apply kA|apply kB|((first|refine kc (N:=59) ?_|apply kD|apply kE|apply kF);simp +decide only[go_sem,hlt,hw,he,c1,c2,c3,c4,c5,c6,Int.toNat_natCast])|(apply kG;(simp +decide only[go_sem,hlt,hw,he,c1,c2,c3,c4,c5,c6,Int.toNat_natCast];rfl);all_goals(intro hcnd;try exact kz hcnd))|((first|apply kH|apply kI)<;>(intro hcnd;simp +decide only[go_sem,hcnd,hlt,hw,he,c1,c2,c3,c4,c5,c6,Int.toNat_natCast]))))
    rw[name_bad hks (by rw[hok];simp at *;omega)]
   rcases Bool.eq_false_or_eq_true (decide ((57:Int)<((e.toNat:Nat):Int)))with c7|c7
   ·skip
    (repeat'(first|apply kA|apply kB|((first|refine kc (N:=59) ?_|apply kD|apply kE|apply kF);simp +decide only[go_sem,hlt,hw,he,c1,c2,c3,c4,c5,c6,c7,Int.toNat_natCast])|(apply kG;(simp +decide only[go_sem,hlt,hw,he,c1,c2,c3,c4,c5,c6,c7,Int.toNat_natCast];rfl);all_goals(intro hcnd;try exact kz hcnd))|((first|apply kH|apply kI)<;>(intro hcnd;simp +decide only[go_sem,hcnd,hlt,hw,he,c1,c2,c3,c4,c5,c6,c7,Int.toNat_natCast]))))
    rw[name_bad hks (by rw[hok];simp at *;omega)]
   (repeat'(first|apply kA|apply kB|((first|refine kc (N:=59) ?_|apply kD|apply kE|apply kF);simp +decide only[go_sem,hlt,hw,he,c1,c2,c3,c4,c5,c6,c7,Int.toNat_natCast])|(apply kG;(simp +decide only[go_sem,hlt,hw,he,c1,c2,c3,c4,c5,c6,c7,Int.toNat_natCast];rfl);all_goals(intro hcnd;try exact kz hcnd))|((first|apply kH|apply kI)<;>(intro hcnd;simp +decide only[go_sem,hcnd,hlt,hw,he,c1,c2,c3,c4,c5,c6,c7,Int.toNat_natCast]))))
   exact⟨step (by rw[hok];simp at *;omega),kL rfl (by simp +decide only[go_sem]) (by simp[noMem])⟩
  rcases Bool.eq_false_or_eq_true (((k:Int)==0))with c3|c3
  ·skip
   (repeat'(first|apply kA|apply kB|((first|refine kc (N:=59) ?_|apply kD|apply kE|apply kF);simp +decide only[go_sem,hlt,hw,he,c1,c3,Int.toNat_natCast])|(apply kG;(simp +decide only[go_sem,hlt,hw,he,c1,c3,Int.toNat_natCast];rfl);all_goals(intro hcnd;try exact kz hcnd))|((first|apply kH|apply kI)<;>(intro hcnd;simp +decide only[go_sem,hcnd,hlt,hw,he,c1,c3,Int.toNat_natCast]))))
   rw[name_bad hks (by rw[hok];simp at *;omega)]
  rcases Bool.eq_false_or_eq_true ((((e.toNat:Nat):Int)!=45))with c4|c4
  rotate_left
  ·skip
   (repeat'(first|apply kA|apply kB|((first|refine kc (N:=59) ?_|apply kD|apply kE|apply kF);simp +decide only[go_sem,hlt,hw,he,c1,c3,c4,Int.toNat_natCast])|(apply kG;(simp +decide only[go_sem,hlt,hw,he,c1,c3,c4,Int.toNat_natCast];rfl);all_goals(intro hcnd;try exact kz hcnd))|((first|apply kH|apply kI)<;>(intro hcnd;simp +decide only[go_sem,hcnd,hlt,hw,he,c1,c3,c4,Int.toNat_natCast]))))
   exact⟨step (by rw[hok];simp at *;omega),kL rfl (by simp +decide only[go_sem]) (by simp[noMem])⟩
  rcases Bool.eq_false_or_eq_true ((((e.toNat:Nat):Int)!=95))with c5|c5
  rotate_left
  ·skip
   (repeat'(first|apply kA|apply kB|((first|refine kc (N:=59) ?_|apply kD|apply kE|apply kF);simp +decide only[go_sem,hlt,hw,he,c1,c3,c4,c5,Int.toNat_natCast])|(apply kG;(simp +decide only[go_sem,hlt,hw,he,c1,c3,c4,c5,Int.toNat_natCast];rfl);all_goals(intro hcnd;try exact kz hcnd))|((first|apply kH|apply kI)<;>(intro hcnd;simp +decide only[go_sem,hcnd,hlt,hw,he,c1,c3,c4,c5,Int.toNat_natCast]))))
   exact⟨step (by rw[hok];simp at *;omega),kL rfl (by simp +decide only[go_sem]) (by simp[noMem])⟩
  rcases Bool.eq_false_or_eq_true (decide (((e.toNat:Nat):Int)<48))with c6|c6
  ·skip
   (repeat'(first|apply kA|apply kB|((first|refine kc (N:=59) ?_|apply kD|apply kE|apply kF);simp +decide only[go_sem,hlt,hw,he,c1,c3,c4,c5,c6,Int.toNat_natCast])|(apply kG;(simp +decide only[go_sem,hlt,hw,he,c1,c3,c4,c5,c6,Int.toNat_natCast];rfl);all_goals(intro hcnd;try exact kz hcnd))|((first|apply kH|apply kI)<;>(intro hcnd;simp +decide only[go_sem,hcnd,hlt,hw,he,c1,c3,c4,c5,c6,Int.toNat_natCast]))))
   rw[name_bad hks (by rw[hok];simp at *;omega)]
  rcases Bool.eq_false_or_eq_true (decide ((57:Int)<((e.toNat:Nat):Int)))with c7|c7
  ·skip
   (repeat'(first|apply kA|apply kB|((first|refine kc (N:=59) ?_|apply kD|apply kE|apply kF);simp +decide only[go_sem,hlt,hw,he,c1,c3,c4,c5,c6,c7,Int.toNat_natCast])|(apply kG;(simp +decide only[go_sem,hlt,hw,he,c1,c3,c4,c5,c6,c7,Int.toNat_natCast];rfl);all_goals(intro hcnd;try exact kz hcnd))|((first|apply kH|apply kI)<;>(intro hcnd;simp +decide only[go_sem,hcnd,hlt,hw,he,c1,c3,c4,c5,c6,c7,Int.toNat_natCast]))))
   rw[name_bad hks (by rw[hok];simp at *;omega)]
  (repeat'(first|apply kA|apply kB|((first|refine kc (N:=59) ?_|apply kD|apply kE|apply kF);simp +decide only[go_sem,hlt,hw,he,c1,c3,c4,c5,c6,c7,Int.toNat_natCast])|(apply kG;(simp +decide only[go_sem,hlt,hw,he,c1,c3,c4,c5,c6,c7,Int.toNat_natCast];rfl);all_goals(intro hcnd;try exact kz hcnd))|((first|apply kH|apply kI)<;>(intro hcnd;simp +decide only[go_sem,hcnd,hlt,hw,he,c1,c3,c4,c5,c6,c7,Int.toNat_natCast]))))
  exact⟨step (by rw[hok];simp at *;omega),kL rfl (by simp +decide only[go_sem]) (by simp[noMem])⟩
 ·intro hlt hi
  rw[hsz]at hlt hi ⊢
  rw[name_all hi]
  by_cases h1:1≤s.size
  ·have c1:decide ((1:Int)≤(s.size:Int))=true:=by simp;omega
   by_cases h2:s.size≤32
   ·have c2:decide ((s.size:Int)≤32)=true:=by simp;omega
    (repeat'(first|apply kA|apply kB|((first|refine kc (N:=59) ?_|apply kD|apply kE|apply kF);simp +decide only[go_sem,hlt,c1,c2])|(apply kG;(simp +decide only[go_sem,hlt,c1,c2];rfl);all_goals(intro hcnd;try exact kz hcnd))|((first|apply kH|apply kI)<;>(intro hcnd;simp +decide only[go_sem,hcnd,hlt,c1,c2]))))
    simp[h1,h2]
   ·have c2:decide ((s.size:Int)≤32)=false:=by simp;omega
    (repeat'(first|apply kA|apply kB|((first|refine kc (N:=59) ?_|apply kD|apply kE|apply kF);simp +decide only[go_sem,hlt,c1,c2])|(apply kG;(simp +decide only[go_sem,hlt,c1,c2];rfl);all_goals(intro hcnd;try exact kz hcnd))|((first|apply kH|apply kI)<;>(intro hcnd;simp +decide only[go_sem,hcnd,hlt,c1,c2]))))
    simp[h1,h2]
  ·have c1:decide ((1:Int)≤(s.size:Int))=false:=by simp;omega
   (repeat'(first|apply kA|apply kB|((first|refine kc (N:=59) ?_|apply kD|apply kE|apply kF);simp +decide only[go_sem,hlt,c1])|(apply kG;(simp +decide only[go_sem,hlt,c1];rfl);all_goals(intro hcnd;try exact kz hcnd))|((first|apply kH|apply kI)<;>(intro hcnd;simp +decide only[go_sem,hcnd,hlt,c1]))))
   simp[h1]
theorem rLab_D(s:ByteArray)(hs:s.size≤1048576):DCalls Tryz.prog 99 [dv (ls s)] (dv (lb (labB s))):=by
 have hmax:maxLen=9223372036854775807:=rfl
 have hsz:=sz_list s
 have hL:=rLabel_D s hs
 refine kd (N:=16) (rs:= [.tmp 2]) Tryz.func99 ?_
 (repeat'(first|apply kA|apply kB|((first|refine kc (N:=16) ?_|apply kD|apply kE);simp +decide only[go_sem])|(apply kG;(simp +decide only[go_sem];rfl);all_goals(intro hcnd;try exact kz hcnd))))
 refine dw_rngI s.data.toList (fun k=>kn 16 [(0,dv (ls s)),(3,dv (li k))] noMem) (fun k=>∀e∈s.data.toList.take k,(e==32)=false) (by omega) (kL rfl (by simp +decide only[go_sem]) (by simp[noMem])) (by simp) ?_ ?_
 ·intro k e he hk hm htk hlt hw hi
  rw[hsz]at hlt
  have hc:(((e.toNat:Nat):Int)==32)=(e==32):=by
   rw[Bool.eq_iff_iff,beq_iff_eq,beq_iff_eq,← UInt8.toNat_inj]
   simp;omega
  cases t1:e==32
  ·rw[t1]at hc
   (repeat'(first|apply kA|apply kB|((first|refine kc (N:=16) ?_|apply kD|apply kE|apply kF);simp +decide only[go_sem,hlt,hw,he,hc,Int.toNat_natCast])|(apply kG;(simp +decide only[go_sem,hlt,hw,he,hc,Int.toNat_natCast];rfl);all_goals(intro hcnd;try exact kz hcnd))))
   exact⟨forall_snoc htk hi t1,kL rfl (by simp +decide only[go_sem]) (by simp[noMem])⟩
  ·rw[t1]at hc
   have hB:blankB s=true:=any_at he t1
   (repeat'(first|apply kA|apply kB|((first|refine kc (N:=16) ?_|apply kD|apply kE|apply kF);simp +decide only[go_sem,hlt,hw,he,hc,Int.toNat_natCast])|(apply kG;(simp +decide only[go_sem,hlt,hw,he,hc,Int.toNat_natCast];rfl);all_goals(intro hcnd;try exact kz hcnd))))
   simp[labB,hB]
 ·intro hlt hi
  rw[hsz]at hlt ⊢
  have hB:blankB s=false:=any_take_no hi
  (repeat'(first|apply kA|apply kB|((first|refine kc (N:=16) ?_|apply kD|apply kE|refine kx hL ?_|apply kF);simp +decide only[go_sem,hlt])|(apply kG;(simp +decide only[go_sem,hlt];rfl);all_goals(intro hcnd;try exact kz hcnd))))
  simp[labB,hB]
theorem rHas17_D(l:List ByteArray)(s:ByteArray)(hl:l.length≤1000000000):DCalls Tryz.prog 100 [dv (.sl 1 (strs l)),dv (ls s)] (dv (lb (l.any fun t=>t==s))):=by
 have hmax:maxLen=9223372036854775807:=rfl
 refine kd (N:=18) (rs:= [.tmp 4]) Tryz.func100 ?_
 (repeat'(first|apply kA|apply kB|((first|refine kc (N:=18) ?_|apply kD|apply kE);simp +decide only[go_sem])|(apply kG;(simp +decide only[go_sem];rfl);all_goals(intro hcnd;try exact kz hcnd))))
 refine dw_rngI l (fun k=>kn 18 [(0,dv (.sl 1 (strs l))),(1,dv (ls s)),(5,dv (li k))] noMem) (fun k=>∀x∈l.take k,(x==s)=false) (by omega) (kL rfl (by simp +decide only[go_sem]) (by simp[noMem])) (by simp) ?_ ?_
 ·intro k x hx hk hm htk hlt hw hi
  have hx':=strs_at hx
  (repeat'(first|apply kA|apply kB|((first|refine kc (N:=18) ?_|apply kD|apply kE|apply kF);simp +decide only[go_sem,hlt,hw,hx'])|(apply kG;(simp +decide only[go_sem,hlt,hw,hx'];rfl);all_goals(intro hcnd;try exact kz hcnd))))
  ·rw[any_true hm hcnd]
  ·exact⟨forall_snoc htk hi hcnd,kL rfl (by simp +decide only[go_sem]) (by simp[noMem])⟩
 ·intro hlt hi
  rw[List.take_length]at hi
  (repeat'(first|apply kA|apply kB|((first|refine kc (N:=18) ?_|apply kD|apply kE|apply kF);simp +decide only[go_sem,hlt])|(apply kG;(simp +decide only[go_sem,hlt];rfl);all_goals(intro hcnd;try exact kz hcnd))))
  have:(l.any fun x=>x==s)=false:=by simpa using hi
  rw[this]
end Go.Proofs.YtehdkccjaeckhaaGreatDoor
namespace Go.Proofs.YtehdkccjaeckhaaGreatDoor
abbrev kpn25:List (Nat×Go.Dl.Mode):= [(0,.light),(1,.light),(2,.light),(3,.light),(4,.light),(5,.light),(6,.light),(7,.light),(8,.light),(9,.light),(10,.light),(11,.light),(12,.light),(13,.light),(14,.light),(15,.light),(16,.light)]
abbrev kq25:Nat→List (Nat×Go.Dl.Mode):=fun n=>match n with|7=>kpn3|14=>kpn25|_=> []
end Go.Proofs.YtehdkccjaeckhaaGreatDoor
namespace Go.Proofs.YtehdkccjaeckhaaGreatDoor
open Go.Dl
open S (usort)
attribute [local irreducible] DW DCalls ECalls wk IW
theorem unit_eq{g:List Phon}{us:List Unt}{i:Nat}{u:Unt}(hu:us[i]? =some u):unitE g us i=if labB u.graph=false then 3 else if((us.take i).any fun v=>v.graph==u.graph)=true then 8 else if u.segs.length<1∨3<u.segs.length then 19 else if(u.segs.any (segBad g))=true then 19 else 0:=by
 unfold unitE;rw[hu]
theorem rUnit_D(g:List Phon)(nm:ByteArray)(us:List Unt)(lt:List (List ByteArray))(i:Nat)(hi:i<us.length)(hul:us.length≤1000000)(hg: ∀u∈us,u.graph.size≤1048576):DCalls Tryz.prog 98 [.agg (invRow g),.agg (ortRow nm us lt),dv (li i)] (dv (li (unitE g us i))):=by
 have hmax:maxLen=9223372036854775807:=rfl
 obtain⟨u,hu⟩: ∃u,us[i]? =some u:=⟨_,List.getElem?_eq_getElem hi⟩
 have hum:=List.mem_of_getElem? hu
 have hL:=rLab_D u.graph (hg u hum)
 rw[unit_eq hu]
 refine kd (N:=67) (rs:= [.tmp 6]) Tryz.func98 ?_
 cases t1:labB u.graph
 ·rw[t1]at hL
  (repeat'(first|apply kA|apply kB|((first|refine kc (N:=67) ?_|refine kj (N:=67) kq25 ?_|apply kD|apply kE|refine kx hL ?_|apply kF);simp +decide only[go_sem,invRow,ortRow,hu,Unt.enc])|(apply kG;(simp +decide only[go_sem,invRow,ortRow,hu,Unt.enc];rfl);all_goals(intro hcnd;try exact kz hcnd))|((first|apply kH|apply kI)<;>(intro hcnd;simp +decide only[go_sem,hcnd,invRow,ortRow,hu,Unt.enc]))))
 rw[if_neg (by decide)]
 rw[t1]at hL
 (repeat'(first|apply kA|apply kB|((first|refine kc (N:=67) ?_|refine kj (N:=67) kq25 ?_|apply kD|apply kE|refine kx hL ?_);simp +decide only[go_sem,invRow,ortRow,hu,Unt.enc,Unt.row])|(apply kG;(simp +decide only[go_sem,invRow,ortRow,hu,Unt.enc,Unt.row];rfl);all_goals(intro hcnd;try exact kz hcnd))|((first|apply kH|apply kI)<;>(intro hcnd;simp +decide only[go_sem,hcnd,invRow,ortRow,hu,Unt.enc,Unt.row]))))
 refine dw_rngI (us.take i) (fun k=>kn 67 [(2,dv (li i)),(3,.one (.bx 3 1 0 0)),(4,.one (.bx 4 3 0 0)),(7,.one (.bx 7 2 0 0)),(8,dv (li k))] (ml [(3,[invRow g]),(4,[ortRow nm us lt]),(7,[u.row])])) (fun k=>∀v∈(us.take i).take k,(v.graph==u.graph)=false) (by rw[List.length_take];omega) (kM rfl (by simp +decide only[go_sem,invRow,ortRow,Unt.row]) (by simp +decide only[go_sem,invRow,ortRow,Unt.row])) (by simp) ?_ ?_
 ·intro k v hv hk hm htk hlt hw hj
  have hkl:(us.take i).length=i:=by rw[List.length_take];omega
  rw[hkl]at hlt
  have hv':us[k]? =some v:=by
   rw[List.getElem?_take]at hv
   split at hv
   ·exact hv
   ·cases hv
  cases t2:v.graph==u.graph
  ·(repeat'(first|apply kA|apply kB|((first|refine kc (N:=67) ?_|refine kj (N:=67) kq25 ?_|apply kD|apply kE);simp +decide only[go_sem,hlt,hw,hv',t2,invRow,ortRow,Unt.enc,Unt.row])|(apply kG;(simp +decide only[go_sem,hlt,hw,hv',t2,invRow,ortRow,Unt.enc,Unt.row];rfl);all_goals(intro hcnd;try exact kz hcnd))|((first|apply kH|apply kI)<;>(intro hcnd;simp +decide only[go_sem,hcnd,hlt,hw,hv',t2,invRow,ortRow,Unt.enc,Unt.row]))))
   exact⟨forall_snoc htk hj t2,kM rfl (by simp +decide only[go_sem,invRow,ortRow,Unt.row]) (by simp +decide only[go_sem,invRow,ortRow,Unt.row])⟩
  ·(repeat'(first|apply kA|apply kB|((first|refine kc (N:=67) ?_|refine kj (N:=67) kq25 ?_|apply kD|apply kE|apply kF);simp +decide only[go_sem,hlt,hw,hv',t2,invRow,ortRow,Unt.enc,Unt.row])|(apply kG;(simp +decide only[go_sem,hlt,hw,hv',t2,invRow,ortRow,Unt.enc,Unt.row];rfl);all_goals(intro hcnd;try exact kz hcnd))|((first|apply kH|apply kI)<;>(intro hcnd;simp +decide only[go_sem,hcnd,hlt,hw,hv',t2,invRow,ortRow,Unt.enc,Unt.row]))))
   rw[any_true hm t2];rfl
 ·intro hlt hj
  have hkl:(us.take i).length=i:=by rw[List.length_take];omega
  rw[List.take_length]at hj
  rw[hkl]at hlt ⊢
  have hB:((us.take i).any fun v=>v.graph==u.graph)=false:=by simpa using hj
  rw[hB,if_neg (by decide)]
  by_cases h1:u.segs.length<1
  ·rw[if_pos (Or.inl h1)]
   have t3:decide ((u.segs.length:Int)<1)=true:=by simp;omega
   (repeat'(first|apply kA|apply kB|((first|refine kc (N:=67) ?_|refine kj (N:=67) kq25 ?_|apply kD|apply kE|apply kF);simp +decide only[go_sem,hlt,t3,invRow,ortRow,Unt.row])|(apply kG;(simp +decide only[go_sem,hlt,t3,invRow,ortRow,Unt.row];rfl);all_goals(intro hcnd;try exact kz hcnd))|((first|apply kH|apply kI)<;>(intro hcnd;simp +decide only[go_sem,hcnd,hlt,t3,invRow,ortRow,Unt.row]))))
  have t3:decide ((u.segs.length:Int)<1)=false:=by simp;omega
  by_cases h2:3<u.segs.length
  ·rw[if_pos (Or.inr h2)]
   have t4:decide ((3:Int)<(u.segs.length:Int))=true:=by simp;omega
   (repeat'(first|apply kA|apply kB|((first|refine kc (N:=67) ?_|refine kj (N:=67) kq25 ?_|apply kD|apply kE|apply kF);simp +decide only[go_sem,hlt,t3,t4,invRow,ortRow,Unt.row])|(apply kG;(simp +decide only[go_sem,hlt,t3,t4,invRow,ortRow,Unt.row];rfl);all_goals(intro hcnd;try exact kz hcnd))|((first|apply kH|apply kI)<;>(intro hcnd;simp +decide only[go_sem,hcnd,hlt,t3,t4,invRow,ortRow,Unt.row]))))
  have t4:decide ((3:Int)<(u.segs.length:Int))=false:=by simp;omega
  rw[if_neg (by omega)]
  (repeat'(first|apply kA|apply kB|((first|refine kc (N:=67) ?_|refine kj (N:=67) kq25 ?_|apply kD|apply kE);simp +decide only[go_sem,hlt,t3,t4,invRow,ortRow,Unt.row])|(apply kG;(simp +decide only[go_sem,hlt,t3,t4,invRow,ortRow,Unt.row];rfl);all_goals(intro hcnd;try exact kz hcnd))|((first|apply kH|apply kI)<;>(intro hcnd;simp +decide only[go_sem,hcnd,hlt,t3,t4,invRow,ortRow,Unt.row]))))
  refine dw_rngI u.segs (fun k=>kn 67 [(3,.one (.bx 3 1 0 0)),(7,.one (.bx 7 2 0 0)),(9,dv (li k))] (ml [(3,[invRow g]),(7,[u.row])])) (fun k=>∀n∈u.segs.take k,segBad g n=false) (by omega) (kM rfl (by simp +decide only[go_sem,invRow,ortRow,Unt.row]) (by simp +decide only[go_sem,invRow,ortRow,Unt.row])) (by simp) ?_ ?_
  ·intro k n hn hk hm htk hlt hw hj
   have hn':=ints_at hn
   by_cases h5:n<1
   ·have t5:decide (n<1)=true:=by simpa using h5
    (repeat'(first|apply kA|apply kB|((first|refine kc (N:=67) ?_|refine kj (N:=67) kq25 ?_|apply kD|apply kE|apply kF);simp +decide only[go_sem,hlt,hw,hn',t5,invRow,Unt.row])|(apply kG;(simp +decide only[go_sem,hlt,hw,hn',t5,invRow,Unt.row];rfl);all_goals(intro hcnd;try exact kz hcnd))|((first|apply kH|apply kI)<;>(intro hcnd;simp +decide only[go_sem,hcnd,hlt,hw,hn',t5,invRow,Unt.row]))))
    rw[any_true hm (by simp[segBad,t5])];rfl
   have t5:decide (n<1)=false:=by simpa using h5
   by_cases h6:(g.length:Int)<n
   ·have t6:decide ((g.length:Int)<n)=true:=by simpa using h6
    (repeat'(first|apply kA|apply kB|((first|refine kc (N:=67) ?_|refine kj (N:=67) kq25 ?_|apply kD|apply kE|apply kF);simp +decide only[go_sem,hlt,hw,hn',t5,t6,invRow,Unt.row])|(apply kG;(simp +decide only[go_sem,hlt,hw,hn',t5,t6,invRow,Unt.row];rfl);all_goals(intro hcnd;try exact kz hcnd))|((first|apply kH|apply kI)<;>(intro hcnd;simp +decide only[go_sem,hcnd,hlt,hw,hn',t5,t6,invRow,Unt.row]))))
    rw[any_true hm (by simp[segBad,t6])];rfl
   have t6:decide ((g.length:Int)<n)=false:=by simpa using h6
   (repeat'(first|apply kA|apply kB|((first|refine kc (N:=67) ?_|refine kj (N:=67) kq25 ?_|apply kD|apply kE);simp +decide only[go_sem,hlt,hw,hn',t5,t6,invRow,Unt.row])|(apply kG;(simp +decide only[go_sem,hlt,hw,hn',t5,t6,invRow,Unt.row];rfl);all_goals(intro hcnd;try exact kz hcnd))|((first|apply kH|apply kI)<;>(intro hcnd;simp +decide only[go_sem,hcnd,hlt,hw,hn',t5,t6,invRow,Unt.row]))))
   exact⟨forall_snoc htk hj (by simp only[segBad,t5,t6];rfl),kM rfl (by simp +decide only[go_sem,invRow,ortRow,Unt.row]) (by simp +decide only[go_sem,invRow,ortRow,Unt.row])⟩
  ·intro hlt hj
   rw[List.take_length]at hj
   have hB2:u.segs.any (segBad g)=false:=by simpa using hj
   rw[hB2]
   (repeat'(first|apply kA|apply kB|((first|refine kc (N:=67) ?_|refine kj (N:=67) kq25 ?_|apply kD|apply kE|apply kF);simp +decide only[go_sem,hlt,Unt.row])|(apply kG;(simp +decide only[go_sem,hlt,Unt.row];rfl);all_goals(intro hcnd;try exact kz hcnd))|((first|apply kH|apply kI)<;>(intro hcnd;simp +decide only[go_sem,hcnd,hlt,Unt.row]))))
def seenL(lt:List (List ByteArray))(k:Nat):List ByteArray:=(lt.take k).flatten
theorem seenL_zero(lt:List (List ByteArray)):seenL lt 0= []:=rfl
theorem seenL_succ{lt:List (List ByteArray)}{k:Nat}{l:List ByteArray}(h:lt[k]? =some l):seenL lt (k+1)=seenL lt k++l:=by
 unfold seenL;rw[List.take_add_one,h,List.flatten_append];simp
theorem seenL_len{lt:List (List ByteArray)}{B:Nat}(h: ∀l∈lt,l.length≤B): ∀k,(seenL lt k).length≤k*B
 | 0=>by simp[seenL_zero]
 | k+1=>by
  rw[Nat.succ_mul]
  have ih:=seenL_len h k
  cases e:lt[k]? with
  | none=>
   have:seenL lt (k+1)=seenL lt k:=by unfold seenL;rw[List.take_add_one,e];simp
   rw[this];omega
  | some l=>
   rw[seenL_succ e,List.length_append]
   have:=h l (List.mem_of_getElem? e)
   omega
theorem letC_at{lt:List (List ByteArray)}{k:Nat}{l:List ByteArray}(h:lt[k]? =some l):(lt.map letC)[k]? =some [.sl 1 (strs l)]:=by simp[h]
theorem strs_snoc2(a:List ByteArray)(s:ByteArray):strs (a++ [s])=strs a++ [[ls s]]:=by simp
theorem rCheckO_D(g:List Phon)(nm:ByteArray)(us:List Unt)(lt:List (List ByteArray))(hnm:nm.size≤1048576)(hg: ∀u∈us,u.graph.size≤1048576)(hll: ∀l∈lt,l.length≤1048576)(hsz: ∀l∈lt,∀s∈l,s.size≤1048576):DCalls Tryz.prog 64 [.agg (invRow g),.agg (ortRow nm us lt)] (dv (li (orthE g nm us lt))):=by
 have hmax:maxLen=9223372036854775807:=rfl
 have hN:=rName10_D nm hnm
 unfold orthE
 refine kd (N:=79) (rs:= [.tmp 4]) Tryz.func64 ?_
 cases t1:nameB nm
 ·rw[t1]at hN
  (repeat'(first|apply kA|apply kB|((first|refine kc (N:=79) ?_|apply kD|apply kE|refine kx hN ?_|apply kF);simp +decide only[go_sem,invRow,ortRow])|(apply kG;(simp +decide only[go_sem,invRow,ortRow];rfl);all_goals(intro hcnd;try exact kz hcnd))))
 rw[t1]at hN
 rw[if_neg (by decide)]
 by_cases h2:100<us.length
 ·rw[if_pos h2]
  have t2:decide ((100:Int)<(us.length:Int))=true:=by simp;omega
  (repeat'(first|apply kA|apply kB|((first|refine kc (N:=79) ?_|apply kD|apply kE|refine kx hN ?_|apply kF);simp +decide only[go_sem,invRow,ortRow,t2])|(apply kG;(simp +decide only[go_sem,invRow,ortRow,t2];rfl);all_goals(intro hcnd;try exact kz hcnd))))
 rw[if_neg h2]
 have t2:decide ((100:Int)<(us.length:Int))=false:=by simp;omega
 (repeat'(first|apply kA|apply kB|((first|refine kc (N:=79) ?_|apply kD|apply kE|refine kx hN ?_);simp +decide only[go_sem,invRow,ortRow,t2])|(apply kG;(simp +decide only[go_sem,invRow,ortRow,t2];rfl);all_goals(intro hcnd;try exact kz hcnd))))
 refine dw_rngI us (fun k=>kn 79 [(2,.one (.bx 2 1 0 0)),(3,.one (.bx 3 3 0 0)),(5,dv (li k))] (ml [(2,[invRow g]),(3,[ortRow nm us lt])])) (fun k=>∀j,j<k→unitE g us j=0) (by omega) (kM rfl (by simp +decide only[go_sem,invRow,ortRow]) (by simp +decide only[go_sem,invRow,ortRow])) (by simp) ?_ ?_
 ·intro k u hu hk hm htk hlt hw hj
  have hU:=rUnit_D g nm us lt k hk (by omega) hg
  simp only[invRow,ortRow]at hU
  cases t3:unitE g us k !=0
  ·have e3:unitE g us k=0:=by simpa using t3
   (repeat'(first|apply kA|apply kB|((first|refine kc (N:=79) ?_|apply kD|apply kE|refine kx hU ?_);simp +decide only[go_sem,hlt,hw,t3,invRow,ortRow])|(apply kG;(simp +decide only[go_sem,hlt,hw,t3,invRow,ortRow];rfl);all_goals(intro hcnd;try exact kz hcnd))))
   exact⟨pre_succ hj e3,kM rfl (by simp +decide only[go_sem,invRow,ortRow]) (by simp +decide only[go_sem,invRow,ortRow])⟩
  ·have e3:unitE g us k≠0:=by simpa using t3
   rw[orN_at hk hj e3,if_pos e3]
   (repeat'(first|apply kA|apply kB|((first|refine kc (N:=79) ?_|apply kD|apply kE|refine kx hU ?_|apply kF);simp +decide only[go_sem,hlt,hw,t3,invRow,ortRow])|(apply kG;(simp +decide only[go_sem,hlt,hw,t3,invRow,ortRow];rfl);all_goals(intro hcnd;try exact kz hcnd))))
 intro hlt hj
 rw[orN_pre hj,if_neg (by decide)]
 by_cases h4:100<lt.length
 ·rw[if_pos h4]
  have t4:decide ((100:Int)<(lt.length:Int))=true:=by simp;omega
  (repeat'(first|apply kA|apply kB|((first|refine kc (N:=79) ?_|apply kD|apply kE|apply kF);simp +decide only[go_sem,hlt,ortRow,t4])|(apply kG;(simp +decide only[go_sem,hlt,ortRow,t4];rfl);all_goals(intro hcnd;try exact kz hcnd))))
 rw[if_neg h4]
 have t4:decide ((100:Int)<(lt.length:Int))=false:=by simp;omega
 (repeat'(first|apply kA|apply kB|((first|refine kc (N:=79) ?_|apply kD|apply kE);simp +decide only[go_sem,hlt,ortRow,t4])|(apply kG;(simp +decide only[go_sem,hlt,ortRow,t4];rfl);all_goals(intro hcnd;try exact kz hcnd))))
 refine dw_own 7 7 1 (by simp +decide only[go_sem]) ?_
 refine dw_rngI lt (fun k=>kn 79 [(3,.one (.bx 3 3 0 0)),(7,.one (.own 7 1 (strs (seenL lt k)))),(8,dv (li k))] (ml [(3,[ortRow nm us lt])])) (fun k=>lettE (seenL lt k) (lt.drop k)=lettE [] lt) (by omega) (kM rfl (by simp +decide only[go_sem,invRow,ortRow,seenL_zero,List.map_nil,List.length_cons,List.length_nil]) (by simp +decide only[go_sem,invRow,ortRow])) rfl ?_ ?_
 ·intro k l hl hk hm htk hlt hw hi
  have hl':=letC_at hl
  rw[drop_at hl,lettE]at hi
  cases t5:(l.length:Int)==0
  rotate_left
  ·have e5:l= []:=by have:=beq_iff_eq.1 t5;simpa using this
   rw[if_pos e5]at hi
   rw[← hi]
   (repeat'(first|apply kA|apply kB|((first|refine kc (N:=79) ?_|apply kD|apply kE|apply kF);simp +decide only[go_sem,hlt,hw,hl',t5,ortRow])|(apply kG;(simp +decide only[go_sem,hlt,hw,hl',t5,ortRow];rfl);all_goals(intro hcnd;try exact kz hcnd))))
  have e5:l≠ []:=by intro h;rw[h]at t5;simp at t5
  rw[if_neg e5]at hi
  have hsl:=seenL_len hll k
  have hlll:=hll l hm
  have hk100:k*1048576≤100*1048576:=Nat.mul_le_mul_right _ (by omega)
  (repeat'(first|apply kA|apply kB|((first|refine kc (N:=79) ?_|apply kD|apply kE);simp +decide only[go_sem,hlt,hw,hl',t5,ortRow])|(apply kG;(simp +decide only[go_sem,hlt,hw,hl',t5,ortRow];rfl);all_goals(intro hcnd;try exact kz hcnd))))
  refine dw_rngI l (fun j=>kn 79 [(3,.one (.bx 3 3 0 0)),(7,.one (.own 7 1 (strs (seenL lt k++l.take j)))),(8,dv (li k)),(9,dv (li j))] (ml [(3,[ortRow nm us lt])])) (fun j=>varsE (seenL lt k++l.take j) (l.drop j)=varsE (seenL lt k) l) (by omega) (kM rfl (by simp +decide only[go_sem,invRow,ortRow,List.take_zero,List.append_nil]) (by simp +decide only[go_sem,invRow,ortRow])) (by simp) ?_ ?_
  ·intro j s hs hj hmj htj hlt2 hw2 hi2
   have hs':=strs_at hs
   have hLb:=rLab_D s (hsz l hm s hmj)
   rw[drop_at hs,varsE]at hi2
   have htl:(l.take j).length≤l.length:=by rw[List.length_take];omega
   have hH:=rHas17_D (seenL lt k++l.take j) s (by rw[List.length_append];omega)
   have hst:seenL lt k++l.take (j+1)=seenL lt k++l.take j++ [s]:=by rw[htj,List.append_assoc]
   have hsn:=strs_snoc2 (seenL lt k++l.take j) s
   have r1:(((seenL lt k++l.take j).length+1)*16≤140737488355328)=True:=eq_true (by rw[List.length_append];omega)
   rw[hst,hsn]
   generalize seenL lt k++l.take j=sn at*
   cases t6:labB s
   ·rw[t6]at hLb hi2
    rw[if_pos rfl]at hi2
    rw[← hi2]at hi
    rw[← hi]
    (repeat'(first|apply kA|apply kB|((first|refine kc (N:=79) ?_|apply kD|apply kE|refine kx hLb ?_|apply kF);simp +decide only[go_sem,hlt2,hw2,hl',hs',ortRow])|(apply kG;(simp +decide only[go_sem,hlt2,hw2,hl',hs',ortRow];rfl);all_goals(intro hcnd;try exact kz hcnd))))
   rw[t6]at hLb hi2
   rw[if_neg (by decide)]at hi2
   cases t7:sn.any fun t=>t==s
   ·rw[t7]at hH hi2
    rw[if_neg (by decide)]at hi2
    (repeat'(first|apply kA|apply kB|((first|refine kc (N:=79) ?_|apply kD|apply kE|refine kx hLb ?_|refine kx hH ?_);simp +decide only[go_sem,hlt2,hw2,hl',hs',r1,ortRow])|(apply kG;(simp +decide only[go_sem,hlt2,hw2,hl',hs',r1,ortRow];rfl);all_goals(intro hcnd;try exact kz hcnd))))
    exact⟨hi2,kM rfl (by simp +decide only[go_sem,ortRow]) (by simp +decide only[go_sem,ortRow])⟩
   ·rw[t7]at hH hi2
    rw[if_pos rfl]at hi2
    rw[← hi2]at hi
    rw[← hi]
    (repeat'(first|apply kA|apply kB|((first|refine kc (N:=79) ?_|apply kD|apply kE|refine kx hLb ?_|refine kx hH ?_|apply kF);simp +decide only[go_sem,hlt2,hw2,hl',hs',ortRow])|(apply kG;(simp +decide only[go_sem,hlt2,hw2,hl',hs',ortRow];rfl);all_goals(intro hcnd;try exact kz hcnd))))
  ·intro hlt2 hi2
   rw[List.drop_length,varsE]at hi2
   rw[← hi2,if_neg (by decide),← seenL_succ hl]at hi
   rw[List.take_length,← seenL_succ hl]
   (repeat'(first|apply kA|apply kB|((first|refine kc (N:=79) ?_|apply kD|apply kE);simp +decide only[go_sem,hlt2,hw,hl',ortRow])|(apply kG;(simp +decide only[go_sem,hlt2,hw,hl',ortRow];rfl);all_goals(intro hcnd;try exact kz hcnd))))
   exact⟨hi,kM rfl (by simp +decide only[go_sem,ortRow]) (by simp +decide only[go_sem,ortRow])⟩
 ·intro hlt hi
  rw[List.drop_length,lettE]at hi
  rw[← hi]
  (repeat'(first|apply kA|apply kB|((first|refine kc (N:=79) ?_|apply kD|apply kE|apply kF);simp +decide only[go_sem,hlt,ortRow])|(apply kG;(simp +decide only[go_sem,hlt,ortRow];rfl);all_goals(intro hcnd;try exact kz hcnd))))
end Go.Proofs.YtehdkccjaeckhaaGreatDoor
namespace Go.Proofs.YtehdkccjaeckhaaGreatDoor
abbrev kpn26:List (Nat×Go.Dl.Mode):= [(0,.light),(1,.light),(2,.light),(3,.light),(4,.light),(5,.light),(6,.step),(7,.light),(8,.light),(9,.light),(10,.light),(11,.light),(12,.light),(13,.light),(14,.light),(15,.light),(16,.light),(17,.light),(18,.light),(19,.light),(20,.light),(21,.light),(22,.step),(23,.light),(24,.light),(25,.light)]
abbrev kpn27:List (Nat×Go.Dl.Mode):= [(0,.light),(1,.light),(2,.light),(3,.light),(4,.light),(5,.light),(6,.light),(7,.light)]
abbrev kpn28:List (Nat×Go.Dl.Mode):= [(0,.light),(1,.light),(2,.light),(3,.light),(4,.light),(5,.light),(6,.light),(7,.step),(8,.light)]
abbrev kq26:Nat→List (Nat×Go.Dl.Mode):=fun n=>match n with|6=>kpn26|9=>kpn27|_=> []
abbrev kq27:Nat→List (Nat×Go.Dl.Mode):=fun n=>match n with|6=>kpn28|_=> []
end Go.Proofs.YtehdkccjaeckhaaGreatDoor
namespace Go.Proofs.YtehdkccjaeckhaaGreatDoor
open Go.Dl
open S (usort)
attribute [local irreducible] DW DCalls ECalls wk IW
theorem put_okO(xs:List Int)(n:Int)(hl:xs.length≤999999):DCalls Tryz.prog 61 [dv (.sl 1 (ints (usort xs))),dv (li n)] (dv (.sl 1 (ints (usort (xs++ [n]))))):=by
 have h:=r1Put_D (usort xs) n (usort_spec xs).1 (by have:=usort_lenI xs;omega)
 rw[putI_usort]at h
 exact h
theorem rSortedO_D(xs:List Int)(hl:xs.length≤999999):DCalls Tryz.prog 31 [dv (.sl 1 (ints xs))] (dv (.sl 1 (ints (usort xs)))):=by
 have hmax:maxLen=9223372036854775807:=rfl
 refine kd (N:=18) (rs:= [.tmp 2]) Tryz.func31 ?_
 (repeat'(first|apply kA|apply kB|((first|refine kc (N:=18) ?_|apply kD|apply kE);simp +decide only[go_sem])|(apply kG;(simp +decide only[go_sem];rfl);all_goals(intro hcnd;try exact kz hcnd))))
 refine dw_slot 3 (dv (.sl 1 [])) (by simp +decide only[go_sem]) ?_
 refine dw_rng0 xs (fun k=>kn 18 [(0,dv (.sl 1 (ints xs))),(3,dv (.sl 1 (ints (usort (xs.take k))))),(6,dv (li xs.length)),(7,dv (li k))] noMem) (by omega) (kL rfl (by simp +decide only[go_sem,List.take_zero,usort_nil,List.map_nil]) (by simp[noMem])) ?_ ?_
 ·intro k x hx hk hm htk hlt hw
  have hx':=ints_at hx
  have hP:=put_okO (xs.take k) x (by rw[List.length_take];omega)
  rw[← htk]at hP
  (repeat'(first|apply kA|apply kB|((first|refine kc (N:=18) ?_|apply kD|apply kE|refine kx hP ?_);simp +decide only[go_sem,hlt,hw,hx'])|(apply kG;(simp +decide only[go_sem,hlt,hw,hx'];rfl);all_goals(intro hcnd;try exact kz hcnd))))
  exact kL rfl (by simp +decide only[go_sem]) (by simp[noMem])
 ·intro hlt
  rw[List.take_length]
  (repeat'(first|apply kA|apply kB|((first|refine kc (N:=18) ?_|apply kD|apply kE|apply kF);simp +decide only[go_sem,hlt])|(apply kG;(simp +decide only[go_sem,hlt];rfl);all_goals(intro hcnd;try exact kz hcnd))))
theorem zip_any{g:List Phon}{a b:List Int}{k:Nat}{x y:Int}(hx:a[k]? =some x)(hy:b[k]? =some y)(h:pairBad g x y=true):((a.zip b).any fun p=>pairBad g p.1 p.2)=true:=
 List.any_eq_true.2 ⟨(x,y),List.mem_of_getElem? (i:=k) (by rw[List.getElem?_zip_eq_some];exact⟨hx,hy⟩),h⟩
theorem zip_none{g:List Phon}{a b:List Int}(h: ∀j,j<a.length→∀x y,a[j]? =some x→b[j]? =some y→pairBad g x y=false):((a.zip b).any fun p=>pairBad g p.1 p.2)=false:=by
 rw[List.any_eq_false]
 rintro⟨x,y⟩ hp
 obtain⟨j,hj⟩:=List.mem_iff_getElem?.1 hp
 rw[List.getElem?_zip_eq_some]at hj
 rw[h j (List.getElem?_eq_some_iff.1 hj.1).1 x y hj.1 hj.2]
 decide
theorem rRule_D(g:List Phon)(r:Rul)(hl:r.src.length≤999999):DCalls Tryz.prog 101 [.agg (invRow g),.agg r.row] (dv (li (rulE g r))):=by
 have hmax:maxLen=9223372036854775807:=rfl
 unfold rulE
 refine kd (N:=70) (rs:= [.tmp 4]) Tryz.func101 ?_
 by_cases h1:r.src.length=0
 ·rw[if_pos (Or.inl h1)]
  have t1:((r.src.length:Int)==0)=true:=by rw[beq_iff_eq];omega
  (repeat'(first|apply kA|apply kB|((first|refine kc (N:=70) ?_|refine kj (N:=70) kq26 ?_|apply kD|apply kE|apply kF);simp +decide only[go_sem,invRow,Rul.row,t1])|(apply kG;(simp +decide only[go_sem,invRow,Rul.row,t1];rfl);all_goals(intro hcnd;try exact kz hcnd))|((first|apply kH|apply kI)<;>(intro hcnd;simp +decide only[go_sem,hcnd,invRow,Rul.row,t1]))))
 have t1:((r.src.length:Int)==0)=false:=by rw[beq_eq_false_iff_ne];omega
 by_cases h2:r.dst.length≠r.src.length
 ·rw[if_pos (Or.inr h2)]
  have t2:((r.dst.length:Int)!=(r.src.length:Int))=true:=by rw[bne_iff_ne];omega
  (repeat'(first|apply kA|apply kB|((first|refine kc (N:=70) ?_|refine kj (N:=70) kq26 ?_|apply kD|apply kE|apply kF);simp +decide only[go_sem,invRow,Rul.row,t1,t2])|(apply kG;(simp +decide only[go_sem,invRow,Rul.row,t1,t2];rfl);all_goals(intro hcnd;try exact kz hcnd))|((first|apply kH|apply kI)<;>(intro hcnd;simp +decide only[go_sem,hcnd,invRow,Rul.row,t1,t2]))))
 have t2:((r.dst.length:Int)!=(r.src.length:Int))=false:=by rw[bne_eq_false_iff_eq];omega
 rw[if_neg (by omega)]
 (repeat'(first|apply kA|apply kB|((first|refine kc (N:=70) ?_|refine kj (N:=70) kq26 ?_|apply kD|apply kE);simp +decide only[go_sem,invRow,Rul.row,t1,t2])|(apply kG;(simp +decide only[go_sem,invRow,Rul.row,t1,t2];rfl);all_goals(intro hcnd;try exact kz hcnd))|((first|apply kH|apply kI)<;>(intro hcnd;simp +decide only[go_sem,hcnd,invRow,Rul.row,t1,t2]))))
 refine dw_rngI r.src (fun k=>kn 70 [(2,.one (.bx 2 1 0 0)),(3,.one (.bx 3 6 0 0)),(21,dv (li r.src.length)),(22,dv (li k))] (ml [(2,[invRow g]),(3,[r.row])])) (fun k=>∀j,j<k→∀x y,r.src[j]? =some x→r.dst[j]? =some y→pairBad g x y=false) (by omega) (kM rfl (by simp +decide only[go_sem,invRow,Rul.row]) (by simp +decide only[go_sem,invRow,Rul.row])) (by simp) ?_ ?_
 ·intro k x hx hk hm htk hlt hw hj
  obtain⟨y,hy⟩: ∃y,r.dst[k]? =some y:=⟨_,List.getElem?_eq_getElem (by omega)⟩
  have hx':=ints_at hx
  have hy':=ints_at hy
  have hI:=rIs_D g x
  have hJ:=rIs_D g y
  simp only[invRow]at hI hJ
  have hgo: ∀a b,r.src[k]? =some a→r.dst[k]? =some b→a=x∧b=y:=fun a b ha hb=>by rw[hx]at ha;rw[hy]at hb;injection ha with ha;injection hb with hb;exact⟨ha.symm,hb.symm⟩
  have hstep:pairBad g x y=false→∀j,j<k+1→∀a b,r.src[j]? =some a→r.dst[j]? =some b→pairBad g a b=false:=fun hp j hjk a b ha hb=>by
   rcases Nat.lt_or_ge j k with h3|h3
   ·exact hj j h3 a b ha hb
   ·have:j=k:=by omega
    subst this
    obtain⟨rfl,rfl⟩:=hgo a b ha hb
    exact hp
  cases t3:segOk g x
  ·rw[t3]at hI
   rw[zip_any hx hy (by simp[pairBad,t3]),if_pos rfl]
   (repeat'(first|apply kA|apply kB|((first|refine kc (N:=70) ?_|refine kj (N:=70) kq26 ?_|apply kD|apply kE|refine kx hI ?_|apply kF);simp +decide only[go_sem,hlt,hw,hx',hy',invRow,Rul.row])|(apply kG;(simp +decide only[go_sem,hlt,hw,hx',hy',invRow,Rul.row];rfl);all_goals(intro hcnd;try exact kz hcnd))|((first|apply kH|apply kI)<;>(intro hcnd;simp +decide only[go_sem,hcnd,hlt,hw,hx',hy',invRow,Rul.row]))))
  rw[t3]at hI
  cases t4:y !=0
  ·(repeat'(first|apply kA|apply kB|((first|refine kc (N:=70) ?_|refine kj (N:=70) kq26 ?_|apply kD|apply kE|refine kx hI ?_|apply kF);simp +decide only[go_sem,hlt,hw,hx',hy',t4,invRow,Rul.row])|(apply kG;(simp +decide only[go_sem,hlt,hw,hx',hy',t4,invRow,Rul.row];rfl);all_goals(intro hcnd;try exact kz hcnd))|((first|apply kH|apply kI)<;>(intro hcnd;simp +decide only[go_sem,hcnd,hlt,hw,hx',hy',t4,invRow,Rul.row]))))
   exact⟨hstep (by simp only[pairBad,t3,t4];rfl),kM rfl (by simp +decide only[go_sem,invRow,Rul.row]) (by simp +decide only[go_sem,invRow,Rul.row])⟩
  cases t5:segOk g y
  ·rw[t5]at hJ
   rw[zip_any hx hy (by simp only[pairBad,t3,t4,t5];rfl),if_pos rfl]
   (repeat'(first|apply kA|apply kB|((first|refine kc (N:=70) ?_|refine kj (N:=70) kq26 ?_|apply kD|apply kE|refine kx hI ?_|refine kx hJ ?_|apply kF);simp +decide only[go_sem,hlt,hw,hx',hy',t4,invRow,Rul.row])|(apply kG;(simp +decide only[go_sem,hlt,hw,hx',hy',t4,invRow,Rul.row];rfl);all_goals(intro hcnd;try exact kz hcnd))|((first|apply kH|apply kI)<;>(intro hcnd;simp +decide only[go_sem,hcnd,hlt,hw,hx',hy',t4,invRow,Rul.row]))))
  ·rw[t5]at hJ
   (repeat'(first|apply kA|apply kB|((first|refine kc (N:=70) ?_|refine kj (N:=70) kq26 ?_|apply kD|apply kE|refine kx hI ?_|refine kx hJ ?_|apply kF);simp +decide only[go_sem,hlt,hw,hx',hy',t4,invRow,Rul.row])|(apply kG;(simp +decide only[go_sem,hlt,hw,hx',hy',t4,invRow,Rul.row];rfl);all_goals(intro hcnd;try exact kz hcnd))|((first|apply kH|apply kI)<;>(intro hcnd;simp +decide only[go_sem,hcnd,hlt,hw,hx',hy',t4,invRow,Rul.row]))))
   exact⟨hstep (by simp only[pairBad,t3,t4,t5];rfl),kM rfl (by simp +decide only[go_sem,invRow,Rul.row]) (by simp +decide only[go_sem,invRow,Rul.row])⟩
 ·intro hlt hj
  rw[zip_none hj,if_neg (by decide)]
  have hS:=rSortedO_D r.src hl
  have hul:=usort_lenI r.src
  by_cases h3:(usort r.src).length≠r.src.length
  ·rw[if_pos h3]
   have t3:(((usort r.src).length:Int)!=(r.src.length:Int))=true:=by rw[bne_iff_ne];omega
   (repeat'(first|apply kA|apply kB|((first|refine kc (N:=70) ?_|refine kj (N:=70) kq26 ?_|apply kD|apply kE|refine kx hS ?_|apply kF);simp +decide only[go_sem,hlt,t3,Rul.row])|(apply kG;(simp +decide only[go_sem,hlt,t3,Rul.row];rfl);all_goals(intro hcnd;try exact kz hcnd))|((first|apply kH|apply kI)<;>(intro hcnd;simp +decide only[go_sem,hcnd,hlt,t3,Rul.row]))))
  rw[if_neg h3]
  have t3:(((usort r.src).length:Int)!=(r.src.length:Int))=false:=by rw[bne_eq_false_iff_eq];omega
  by_cases h4:2<r.left.length
  ·rw[if_pos (Or.inl h4)]
   have t4:decide ((2:Int)<(r.left.length:Int))=true:=by simp;omega
   (repeat'(first|apply kA|apply kB|((first|refine kc (N:=70) ?_|refine kj (N:=70) kq26 ?_|apply kD|apply kE|refine kx hS ?_|apply kF);simp +decide only[go_sem,hlt,t3,t4,Rul.row])|(apply kG;(simp +decide only[go_sem,hlt,t3,t4,Rul.row];rfl);all_goals(intro hcnd;try exact kz hcnd))|((first|apply kH|apply kI)<;>(intro hcnd;simp +decide only[go_sem,hcnd,hlt,t3,t4,Rul.row]))))
  have t4:decide ((2:Int)<(r.left.length:Int))=false:=by simp;omega
  by_cases h5:2<r.right.length
  ·rw[if_pos (Or.inr h5)]
   have t5:decide ((2:Int)<(r.right.length:Int))=true:=by simp;omega
   (repeat'(first|apply kA|apply kB|((first|refine kc (N:=70) ?_|refine kj (N:=70) kq26 ?_|apply kD|apply kE|refine kx hS ?_|apply kF);simp +decide only[go_sem,hlt,t3,t4,t5,Rul.row])|(apply kG;(simp +decide only[go_sem,hlt,t3,t4,t5,Rul.row];rfl);all_goals(intro hcnd;try exact kz hcnd))|((first|apply kH|apply kI)<;>(intro hcnd;simp +decide only[go_sem,hcnd,hlt,t3,t4,t5,Rul.row]))))
  have t5:decide ((2:Int)<(r.right.length:Int))=false:=by simp;omega
  rw[if_neg (by omega)]
  (repeat'(first|apply kA|apply kB|((first|refine kc (N:=70) ?_|refine kj (N:=70) kq26 ?_|apply kD|apply kE|refine kx hS ?_|apply kF);simp +decide only[go_sem,hlt,t3,t4,t5,Rul.row])|(apply kG;(simp +decide only[go_sem,hlt,t3,t4,t5,Rul.row];rfl);all_goals(intro hcnd;try exact kz hcnd))|((first|apply kH|apply kI)<;>(intro hcnd;simp +decide only[go_sem,hcnd,hlt,t3,t4,t5,Rul.row]))))
theorem rul_eq{g:List Phon}{l:List Rul}{k:Nat}{r:Rul}(h:l[k]? =some r):((l[k]?).map (rulE g)).getD 0=rulE g r:=by rw[h];rfl
theorem rRules_D(g:Lng)(hl: ∀r∈g.rules,r.src.length≤999999):DCalls Tryz.prog 65 [.agg (lngRow g.x g.d)] (dv (li (rulsE g.d.inv g.rules))):=by
 have hmax:maxLen=9223372036854775807:=rfl
 unfold rulsE
 refine kd (N:=27) (rs:= [.tmp 2]) Tryz.func65 ?_
 by_cases h1:12<g.rules.length
 ·rw[if_pos h1]
  have t1:decide ((12:Int)<(g.rules.length:Int))=true:=by simp;omega
  (repeat'(first|apply kA|apply kB|((first|refine kc (N:=27) ?_|refine kj (N:=27) kq27 ?_|apply kD|apply kE|apply kF);simp +decide only[go_sem,lngRow,Lng.x,t1])|(apply kG;(simp +decide only[go_sem,lngRow,Lng.x,t1];rfl);all_goals(intro hcnd;try exact kz hcnd))))
 rw[if_neg h1]
 have t1:decide ((12:Int)<(g.rules.length:Int))=false:=by simp;omega
 (repeat'(first|apply kA|apply kB|((first|refine kc (N:=27) ?_|refine kj (N:=27) kq27 ?_|apply kD|apply kE);simp +decide only[go_sem,lngRow,Lng.x,t1])|(apply kG;(simp +decide only[go_sem,lngRow,Lng.x,t1];rfl);all_goals(intro hcnd;try exact kz hcnd))))
 refine dw_rngI g.rules (fun k=>kn 27 [(1,.one (.bx 1 9 0 0)),(3,dv (li k))] (ml [(1,[lngRow g.x g.d])])) (fun k=>∀j,j<k→(fun i=>((g.rules[i]?).map (rulE g.d.inv)).getD 0) j=0) (by omega) (kM rfl (by simp +decide only[go_sem,lngRow,Lng.x]) (by simp +decide only[go_sem,lngRow,Lng.x])) (by simp) ?_ ?_
 ·intro k r hr hk hm htk hlt hw hj
  have hR:=rRule_D g.d.inv r (hl r hm)
  have he:=rul_eq (g:=g.d.inv) hr
  simp only[invRow,Rul.row]at hR
  cases t3:rulE g.d.inv r !=0
  ·have e3:rulE g.d.inv r=0:=by simpa using t3
   (repeat'(first|apply kA|apply kB|((first|refine kc (N:=27) ?_|refine kj (N:=27) kq27 ?_|apply kD|apply kE|refine kx hR ?_);simp +decide only[go_sem,hlt,hw,hr,t3,Rul.enc,lngRow,Lng.x])|(apply kG;(simp +decide only[go_sem,hlt,hw,hr,t3,Rul.enc,lngRow,Lng.x];rfl);all_goals(intro hcnd;try exact kz hcnd))))
   exact⟨pre_succ hj (he.trans e3),kM rfl (by simp +decide only[go_sem,lngRow,Lng.x]) (by simp +decide only[go_sem,lngRow,Lng.x])⟩
  ·have e3:rulE g.d.inv r≠0:=by simpa using t3
   rw[orN_at hk hj (by show((g.rules[k]?).map (rulE g.d.inv)).getD 0≠0;rw[he];exact e3),he]
   (repeat'(first|apply kA|apply kB|((first|refine kc (N:=27) ?_|refine kj (N:=27) kq27 ?_|apply kD|apply kE|refine kx hR ?_|apply kF);simp +decide only[go_sem,hlt,hw,hr,t3,Rul.enc,lngRow,Lng.x])|(apply kG;(simp +decide only[go_sem,hlt,hw,hr,t3,Rul.enc,lngRow,Lng.x];rfl);all_goals(intro hcnd;try exact kz hcnd))))
 ·intro hlt hj
  rw[orN_pre hj]
  (repeat'(first|apply kA|apply kB|((first|refine kc (N:=27) ?_|refine kj (N:=27) kq27 ?_|apply kD|apply kE|apply kF);simp +decide only[go_sem,hlt,lngRow,Lng.x])|(apply kG;(simp +decide only[go_sem,hlt,lngRow,Lng.x];rfl);all_goals(intro hcnd;try exact kz hcnd))))
end Go.Proofs.YtehdkccjaeckhaaGreatDoor
namespace Go.Proofs.YtehdkccjaeckhaaGreatDoor
abbrev kpn29:List (Nat×Go.Dl.Mode):= [(0,.light),(1,.light),(2,.light),(3,.light),(4,.light),(5,.light),(6,.light)]
abbrev kpn30:List (Nat×Go.Dl.Mode):= [(0,.light),(1,.light),(2,.light),(3,.light),(4,.light),(5,.light),(6,.light),(7,.light),(8,.light),(9,.light),(10,.light),(11,.light)]
abbrev kq28:Nat→List (Nat×Go.Dl.Mode):=fun n=>match n with|16=>kpn29|21=>kpn30|26=>kpn4|_=> []
end Go.Proofs.YtehdkccjaeckhaaGreatDoor
namespace Go.Proofs.YtehdkccjaeckhaaGreatDoor
open Go.Dl
open S (usort)
attribute [local irreducible] DW DCalls ECalls wk IW
def netRow(n:Int)(l:List Stp)(f:List Int):List T:= [.c (li n),.c (.sl 3 (l.map Stp.enc)),.c (.sl 1 (ints f))]
theorem rState_D(n:Int)(l:List Stp)(f:List Int)(q:Int):DCalls Tryz.prog 102 [.agg (netRow n l f),dv (li q)] (dv (lb (!stBad n q))):=by
 unfold stBad
 refine kd (N:=13) (rs:= [.tmp 4]) Tryz.func102 ?_
 rcases Bool.eq_false_or_eq_true (decide (0≤q))with t1|t1
 ·rcases Bool.eq_false_or_eq_true (decide (q<n))with t2|t2
  ·(repeat'(first|apply kA|apply kB|((first|refine kc (N:=13) ?_|apply kD|apply kE|apply kF);simp +decide only[go_sem,netRow,t1,t2])|(apply kG;(simp +decide only[go_sem,netRow,t1,t2];rfl);all_goals(intro hcnd;try exact kz hcnd))|((first|apply kH|apply kI)<;>(intro hcnd;simp +decide only[go_sem,hcnd,netRow,t1,t2]))))
  ·(repeat'(first|apply kA|apply kB|((first|refine kc (N:=13) ?_|apply kD|apply kE|apply kF);simp +decide only[go_sem,netRow,t1,t2])|(apply kG;(simp +decide only[go_sem,netRow,t1,t2];rfl);all_goals(intro hcnd;try exact kz hcnd))|((first|apply kH|apply kI)<;>(intro hcnd;simp +decide only[go_sem,hcnd,netRow,t1,t2]))))
 ·(repeat'(first|apply kA|apply kB|((first|refine kc (N:=13) ?_|apply kD|apply kE|apply kF);simp +decide only[go_sem,netRow,t1])|(apply kG;(simp +decide only[go_sem,netRow,t1];rfl);all_goals(intro hcnd;try exact kz hcnd))|((first|apply kH|apply kI)<;>(intro hcnd;simp +decide only[go_sem,hcnd,netRow,t1]))))
theorem stp_eq(x y:Stp):(x.src==y.src&&(x.cls==y.cls&&(x.dst==y.dst)))=decide (x=y):=by rw[Bool.eq_iff_iff];cases x;cases y;simp
theorem stpE_eq{n:Int}{l:List Stp}{i:Nat}{x:Stp}(h:l[i]? =some x):stpE n l i=if(stBad n x.src||stBad n x.dst)=true then 2 else if x.cls<1∨20<x.cls then 21 else if((l.take i).any fun y=>decide (y=x))=true then 8 else 0:=by unfold stpE;rw[h]
theorem upBad_at{f:List Int}{k:Nat}(hk:k<f.length)(h0:k≠0)(h:(f[k]?).getD 0≤(f[k - 1]?).getD 0):((List.range f.length).any fun i=> !(i==0)&&decide ((f[i]?).getD 0≤(f[i - 1]?).getD 0))=true:=
 List.any_eq_true.2 ⟨k,List.mem_range.2 hk,by simp[h0,h]⟩
theorem upBad_none{f:List Int}(h: ∀k,k<f.length→k≠0→¬(f[k]?).getD 0≤(f[k - 1]?).getD 0):((List.range f.length).any fun i=> !(i==0)&&decide ((f[i]?).getD 0≤(f[i - 1]?).getD 0))=false:=by
 rw[List.any_eq_false]
 intro k hk
 have:=h k (List.mem_range.1 hk)
 by_cases h0:k=0
 ·simp[h0]
 ·simp[h0,this h0]
theorem rNet_D(n:Int)(l:List Stp)(f:List Int)(hf:f.length≤1048576):DCalls Tryz.prog 66 [.agg (netRow n l f)] (dv (li (netE n l f))):=by
 have hmax:maxLen=9223372036854775807:=rfl
 unfold netE
 refine kd (N:=98) (rs:= [.tmp 2]) Tryz.func66 ?_
 by_cases h1:n<1
 ·rw[if_pos (Or.inl h1)]
  have t1:decide (n<1)=true:=by simpa using h1
  (repeat'(first|apply kA|apply kB|((first|refine kc (N:=98) ?_|refine kj (N:=98) kq28 ?_|apply kD|apply kE|apply kF);simp +decide only[go_sem,netRow,t1])|(apply kG;(simp +decide only[go_sem,netRow,t1];rfl);all_goals(intro hcnd;try exact kz hcnd))|((first|apply kH|apply kI)<;>(intro hcnd;simp +decide only[go_sem,hcnd,netRow,t1]))))
 have t1:decide (n<1)=false:=by simpa using h1
 by_cases h2:24<n
 ·rw[if_pos (Or.inr h2)]
  have t2:decide (24<n)=true:=by simpa using h2
  (repeat'(first|apply kA|apply kB|((first|refine kc (N:=98) ?_|refine kj (N:=98) kq28 ?_|apply kD|apply kE|apply kF);simp +decide only[go_sem,netRow,t1,t2])|(apply kG;(simp +decide only[go_sem,netRow,t1,t2];rfl);all_goals(intro hcnd;try exact kz hcnd))|((first|apply kH|apply kI)<;>(intro hcnd;simp +decide only[go_sem,hcnd,netRow,t1,t2]))))
 have t2:decide (24<n)=false:=by simpa using h2
 rw[if_neg (by omega)]
 by_cases h3:200<l.length
 ·rw[if_pos h3]
  have t3:decide ((200:Int)<(l.length:Int))=true:=by simp;omega
  (repeat'(first|apply kA|apply kB|((first|refine kc (N:=98) ?_|refine kj (N:=98) kq28 ?_|apply kD|apply kE|apply kF);simp +decide only[go_sem,netRow,t1,t2,t3])|(apply kG;(simp +decide only[go_sem,netRow,t1,t2,t3];rfl);all_goals(intro hcnd;try exact kz hcnd))|((first|apply kH|apply kI)<;>(intro hcnd;simp +decide only[go_sem,hcnd,netRow,t1,t2,t3]))))
 have t3:decide ((200:Int)<(l.length:Int))=false:=by simp;omega
 rw[if_neg h3]
 (repeat'(first|apply kA|apply kB|((first|refine kc (N:=98) ?_|refine kj (N:=98) kq28 ?_|apply kD|apply kE);simp +decide only[go_sem,netRow,t1,t2,t3])|(apply kG;(simp +decide only[go_sem,netRow,t1,t2,t3];rfl);all_goals(intro hcnd;try exact kz hcnd))|((first|apply kH|apply kI)<;>(intro hcnd;simp +decide only[go_sem,hcnd,netRow,t1,t2,t3]))))
 refine dw_rngI l (fun k=>kn 98 [(1,.one (.bx 1 3 0 0)),(3,dv (li k))] (ml [(1,[netRow n l f])])) (fun k=>∀j,j<k→stpE n l j=0) (by omega) (kM rfl (by simp +decide only[go_sem,netRow]) (by simp +decide only[go_sem,netRow])) (by simp) ?_ ?_
 ·intro k x hx hk hm htk hlt hw hj
  have hst:=stpE_eq (n:=n) hx
  have hA:=rState_D n l f x.src
  have hB:=rState_D n l f x.dst
  simp only[netRow]at hA hB
  have hbad:stpE n l k≠0→orN (stpE n l) l.length=stpE n l k:=fun h=>orN_at hk hj h
  cases c1:stBad n x.src
  rotate_left
  ·rw[c1]at hA hst
   rw[Bool.true_or,if_pos rfl]at hst
   rw[hbad (by rw[hst];decide),hst,if_pos (by decide)]
   (repeat'(first|apply kA|apply kB|((first|refine kc (N:=98) ?_|refine kj (N:=98) kq28 ?_|apply kD|apply kE|refine kx hA ?_|apply kF);simp +decide only[go_sem,hlt,hw,hx,netRow,Stp.enc])|(apply kG;(simp +decide only[go_sem,hlt,hw,hx,netRow,Stp.enc];rfl);all_goals(intro hcnd;try exact kz hcnd))|((first|apply kH|apply kI)<;>(intro hcnd;simp +decide only[go_sem,hcnd,hlt,hw,hx,netRow,Stp.enc]))))
  rw[c1]at hA hst
  cases c2:stBad n x.dst
  rotate_left
  ·rw[c2]at hB hst
   rw[Bool.or_true,if_pos rfl]at hst
   rw[hbad (by rw[hst];decide),hst,if_pos (by decide)]
   (repeat'(first|apply kA|apply kB|((first|refine kc (N:=98) ?_|refine kj (N:=98) kq28 ?_|apply kD|apply kE|refine kx hA ?_|refine kx hB ?_|apply kF);simp +decide only[go_sem,hlt,hw,hx,netRow,Stp.enc])|(apply kG;(simp +decide only[go_sem,hlt,hw,hx,netRow,Stp.enc];rfl);all_goals(intro hcnd;try exact kz hcnd))|((first|apply kH|apply kI)<;>(intro hcnd;simp +decide only[go_sem,hcnd,hlt,hw,hx,netRow,Stp.enc]))))
  rw[c2]at hB hst
  rw[Bool.or_false,if_neg (by decide)]at hst
  by_cases h4:x.cls<1
  ·rw[if_pos (Or.inl h4)]at hst
   have t4:decide (x.cls<1)=true:=by simpa using h4
   rw[hbad (by rw[hst];decide),hst,if_pos (by decide)]
   (repeat'(first|apply kA|apply kB|((first|refine kc (N:=98) ?_|refine kj (N:=98) kq28 ?_|apply kD|apply kE|refine kx hA ?_|refine kx hB ?_|apply kF);simp +decide only[go_sem,hlt,hw,hx,t4,netRow,Stp.enc])|(apply kG;(simp +decide only[go_sem,hlt,hw,hx,t4,netRow,Stp.enc];rfl);all_goals(intro hcnd;try exact kz hcnd))|((first|apply kH|apply kI)<;>(intro hcnd;simp +decide only[go_sem,hcnd,hlt,hw,hx,t4,netRow,Stp.enc]))))
  have t4:decide (x.cls<1)=false:=by simpa using h4
  by_cases h5:20<x.cls
  ·rw[if_pos (Or.inr h5)]at hst
   have t5:decide (20<x.cls)=true:=by simpa using h5
   rw[hbad (by rw[hst];decide),hst,if_pos (by decide)]
   (repeat'(first|apply kA|apply kB|((first|refine kc (N:=98) ?_|refine kj (N:=98) kq28 ?_|apply kD|apply kE|refine kx hA ?_|refine kx hB ?_|apply kF);simp +decide only[go_sem,hlt,hw,hx,t4,t5,netRow,Stp.enc])|(apply kG;(simp +decide only[go_sem,hlt,hw,hx,t4,t5,netRow,Stp.enc];rfl);all_goals(intro hcnd;try exact kz hcnd))|((first|apply kH|apply kI)<;>(intro hcnd;simp +decide only[go_sem,hcnd,hlt,hw,hx,t4,t5,netRow,Stp.enc]))))
  have t5:decide (20<x.cls)=false:=by simpa using h5
  rw[if_neg (by omega)]at hst
  (repeat'(first|apply kA|apply kB|((first|refine kc (N:=98) ?_|refine kj (N:=98) kq28 ?_|apply kD|apply kE|refine kx hA ?_|refine kx hB ?_);simp +decide only[go_sem,hlt,hw,hx,t4,t5,netRow,Stp.enc])|(apply kG;(simp +decide only[go_sem,hlt,hw,hx,t4,t5,netRow,Stp.enc];rfl);all_goals(intro hcnd;try exact kz hcnd))|((first|apply kH|apply kI)<;>(intro hcnd;simp +decide only[go_sem,hcnd,hlt,hw,hx,t4,t5,netRow,Stp.enc]))))
  refine dw_rngI (l.take k) (fun j=>kn 98 [(1,.one (.bx 1 3 0 0)),(3,dv (li k)),(4,.one (.bx 4 3 0 0)),(5,dv (li j))] (ml [(1,[netRow n l f]),(4,[x.row])])) (fun j=>∀y∈(l.take k).take j,decide (y=x)=false) (by rw[List.length_take];omega) (kM rfl (by simp +decide only[go_sem,netRow,Stp.row]) (by simp +decide only[go_sem,netRow,Stp.row])) (by simp) ?_ ?_
  ·intro j y hy hjk hym htj hlt2 hw2 hi2
   have hkl:(l.take k).length=k:=by rw[List.length_take];omega
   rw[hkl]at hlt2
   have hy':l[j]? =some y:=by
    rw[List.getElem?_take]at hy
    split at hy
    ·exact hy
    ·cases hy
   have he:=stp_eq y x
   cases c3:decide (y=x)
   ·rw[c3]at he
    (repeat'(first|apply kA|apply kB|((first|refine kc (N:=98) ?_|refine kj (N:=98) kq28 ?_|apply kD|apply kE);simp +decide only[go_sem,hlt2,hw2,hy',he,netRow,Stp.enc,Stp.row])|(apply kG;(simp +decide only[go_sem,hlt2,hw2,hy',he,netRow,Stp.enc,Stp.row];rfl);all_goals(intro hcnd;try exact kz hcnd))|((first|apply kH|apply kI)<;>(intro hcnd;simp +decide only[go_sem,hcnd,hlt2,hw2,hy',he,netRow,Stp.enc,Stp.row]))))
    exact⟨forall_snoc htj hi2 c3,kM rfl (by simp +decide only[go_sem,netRow,Stp.row]) (by simp +decide only[go_sem,netRow,Stp.row])⟩
   ·rw[c3]at he
    rw[if_pos (any_true hym c3)]at hst
    rw[hbad (by rw[hst];decide),hst,if_pos (by decide)]
    (repeat'(first|apply kA|apply kB|((first|refine kc (N:=98) ?_|refine kj (N:=98) kq28 ?_|apply kD|apply kE|apply kF);simp +decide only[go_sem,hlt2,hw2,hy',he,netRow,Stp.enc,Stp.row])|(apply kG;(simp +decide only[go_sem,hlt2,hw2,hy',he,netRow,Stp.enc,Stp.row];rfl);all_goals(intro hcnd;try exact kz hcnd))|((first|apply kH|apply kI)<;>(intro hcnd;simp +decide only[go_sem,hcnd,hlt2,hw2,hy',he,netRow,Stp.enc,Stp.row]))))
  ·intro hlt2 hi2
   have hkl:(l.take k).length=k:=by rw[List.length_take];omega
   rw[hkl]at hlt2 ⊢
   rw[List.take_length]at hi2
   have hB3:((l.take k).any fun y=>decide (y=x))=false:=by simpa using hi2
   rw[hB3,if_neg (by decide)]at hst
   (repeat'(first|apply kA|apply kB|((first|refine kc (N:=98) ?_|refine kj (N:=98) kq28 ?_|apply kD|apply kE);simp +decide only[go_sem,hlt2,hw])|(apply kG;(simp +decide only[go_sem,hlt2,hw];rfl);all_goals(intro hcnd;try exact kz hcnd))|((first|apply kH|apply kI)<;>(intro hcnd;simp +decide only[go_sem,hcnd,hlt2,hw]))))
   exact⟨pre_succ hj hst,kM rfl (by simp +decide only[go_sem,netRow]) (by simp +decide only[go_sem,netRow])⟩
 intro hlt hj
 rw[orN_pre hj,if_neg (by decide)]
 (repeat'(first|apply kA|apply kB|((first|refine kc (N:=98) ?_|refine kj (N:=98) kq28 ?_|apply kD|apply kE);simp +decide only[go_sem,hlt,netRow])|(apply kG;(simp +decide only[go_sem,hlt,netRow];rfl);all_goals(intro hcnd;try exact kz hcnd))|((first|apply kH|apply kI)<;>(intro hcnd;simp +decide only[go_sem,hcnd,hlt,netRow]))))
 refine dw_loop_fam (fun k:Nat=>kn 98 [(1,.one (.bx 1 3 0 0)),(6,dv (li k))] (ml [(1,[netRow n l f])])) (fun k=>1≤k∧∀i,i<k→i<f.length→i≠0→¬(f[i]?).getD 0≤(f[i - 1]?).getD 0) (fun k=>f.length - k) 1
  (kM rfl (by simp +decide only[go_sem,netRow]) (by simp +decide only[go_sem,netRow])) ⟨by omega,fun i hi _ h0=>absurd hi (by omega)⟩ ?_
 rintro k ⟨hk1,hk2⟩
 by_cases hkf:k<f.length
 ·have t6:decide ((k:Int)<(f.length:Int))=true:=by simp;omega
  obtain⟨y,hy⟩: ∃y,f[k]? =some y:=⟨_,List.getElem?_eq_getElem hkf⟩
  obtain⟨z,hz⟩: ∃z,f[k - 1]? =some z:=⟨_,List.getElem?_eq_getElem (by omega)⟩
  have hy':=ints_at hy
  have hz':=ints_at hz
  have w1:IntKind.i64.wrap ((k:Int) - 1)=((k - 1:Nat):Int):=by rw[wrap_i64 (by omega) (by omega)];omega
  have w2:=wrap_succ k (by omega)
  by_cases h6:y≤z
  ·have t7:decide (y≤z)=true:=by simpa using h6
   rw[upBad_at hkf (by omega) (by rw[hy,hz];exact h6),if_pos rfl]
   (repeat'(first|apply kA|apply kB|((first|refine kc (N:=98) ?_|refine kj (N:=98) kq28 ?_|apply kD|apply kE|apply kF);simp +decide only[go_sem,t6,hy',hz',w1,w2,t7,netRow,Int.toNat_natCast])|(apply kG;(simp +decide only[go_sem,t6,hy',hz',w1,w2,t7,netRow,Int.toNat_natCast];rfl);all_goals(intro hcnd;try exact kz hcnd))|((first|apply kH|apply kI)<;>(intro hcnd;simp +decide only[go_sem,hcnd,t6,hy',hz',w1,w2,t7,netRow,Int.toNat_natCast]))))
  ·have t7:decide (y≤z)=false:=by simpa using h6
   (repeat'(first|apply kA|apply kB|((first|refine kc (N:=98) ?_|refine kj (N:=98) kq28 ?_|apply kD|apply kE);simp +decide only[go_sem,t6,hy',hz',w1,w2,t7,netRow,Int.toNat_natCast])|(apply kG;(simp +decide only[go_sem,t6,hy',hz',w1,w2,t7,netRow,Int.toNat_natCast];rfl);all_goals(intro hcnd;try exact kz hcnd))|((first|apply kH|apply kI)<;>(intro hcnd;simp +decide only[go_sem,hcnd,t6,hy',hz',w1,w2,t7,netRow,Int.toNat_natCast]))))
   refine⟨k+1,⟨by omega,fun i hi hif h0=>?_⟩,by omega,kM rfl (by simp +decide only[go_sem,netRow]) (by simp +decide only[go_sem,netRow])⟩
   rcases Nat.lt_or_ge i k with h8|h8
   ·exact hk2 i h8 hif h0
   ·have:i=k:=by omega
    rw[this,hy,hz];exact h6
 ·have t6:decide ((k:Int)<(f.length:Int))=false:=by simp;omega
  have hup: ∀k,k<f.length→k≠0→¬(f[k]?).getD 0≤(f[k - 1]?).getD 0:=fun i hi h0=>hk2 i (by omega) hi h0
  rw[upBad_none hup,if_neg (by decide)]
  (repeat'(first|apply kA|apply kB|((first|refine kc (N:=98) ?_|refine kj (N:=98) kq28 ?_|apply kD|apply kE);simp +decide only[go_sem,t6,netRow])|(apply kG;(simp +decide only[go_sem,t6,netRow];rfl);all_goals(intro hcnd;try exact kz hcnd))|((first|apply kH|apply kI)<;>(intro hcnd;simp +decide only[go_sem,hcnd,t6,netRow]))))
  refine dw_rngI f (fun k=>kn 98 [(1,.one (.bx 1 3 0 0)),(7,dv (li k))] (ml [(1,[netRow n l f])])) (fun k=>∀q∈f.take k,stBad n q=false) (by omega) (kM rfl (by simp +decide only[go_sem,netRow]) (by simp +decide only[go_sem,netRow])) (by simp) ?_ ?_
  ·intro k q hq hk hm htk hlt hw hi
   have hS:=rState_D n l f q
   have hq':=ints_at hq
   simp only[netRow]at hS
   cases c1:stBad n q
   ·rw[c1]at hS
    (repeat'(first|apply kA|apply kB|((first|refine kc (N:=98) ?_|refine kj (N:=98) kq28 ?_|apply kD|apply kE|refine kx hS ?_);simp +decide only[go_sem,hlt,hw,hq',netRow])|(apply kG;(simp +decide only[go_sem,hlt,hw,hq',netRow];rfl);all_goals(intro hcnd;try exact kz hcnd))|((first|apply kH|apply kI)<;>(intro hcnd;simp +decide only[go_sem,hcnd,hlt,hw,hq',netRow]))))
    exact⟨forall_snoc htk hi c1,kM rfl (by simp +decide only[go_sem,netRow]) (by simp +decide only[go_sem,netRow])⟩
   ·rw[c1]at hS
    rw[any_true hm c1,if_pos rfl]
    (repeat'(first|apply kA|apply kB|((first|refine kc (N:=98) ?_|refine kj (N:=98) kq28 ?_|apply kD|apply kE|refine kx hS ?_|apply kF);simp +decide only[go_sem,hlt,hw,hq',netRow])|(apply kG;(simp +decide only[go_sem,hlt,hw,hq',netRow];rfl);all_goals(intro hcnd;try exact kz hcnd))|((first|apply kH|apply kI)<;>(intro hcnd;simp +decide only[go_sem,hcnd,hlt,hw,hq',netRow]))))
  ·intro hlt hi
   rw[List.take_length]at hi
   rw[show f.any (stBad n)=false by simpa using hi,if_neg (by decide)]
   (repeat'(first|apply kA|apply kB|((first|refine kc (N:=98) ?_|refine kj (N:=98) kq28 ?_|apply kD|apply kE|apply kF);simp +decide only[go_sem,hlt,netRow])|(apply kG;(simp +decide only[go_sem,hlt,netRow];rfl);all_goals(intro hcnd;try exact kz hcnd))|((first|apply kH|apply kI)<;>(intro hcnd;simp +decide only[go_sem,hcnd,hlt,netRow]))))
theorem rVar_D(l:List Ent)(hl:l.length≤999999):DCalls Tryz.prog 69 [dv (.sl 8 (l.map Ent.enc))] (dv (li (mainsE l))):=by
 have hmax:maxLen=9223372036854775807:=rfl
 unfold mainsE
 refine kd (N:=44) (rs:= [.tmp 2]) Tryz.func69 ?_
 (repeat'(first|apply kA|apply kB|((first|refine kc (N:=44) ?_|apply kD|apply kE);simp +decide only[go_sem])|(apply kG;(simp +decide only[go_sem];rfl);all_goals(intro hcnd;try exact kz hcnd))|((first|apply kH|apply kI)<;>(intro hcnd;simp +decide only[go_sem,hcnd]))))
 refine dw_rngI l (fun k=>kn 44 [(0,dv (.sl 8 (l.map Ent.enc))),(3,dv (li k))] noMem) (fun k=>∀e∈l.take k,(e.main !=0&&decide (idxF (fun x=>x.id==e.main) l<0))=false) (by omega) (kL rfl (by simp +decide only[go_sem]) (by simp[noMem])) (by simp) ?_ ?_
 ·intro k e he hk hm htk hlt hw hi
  have hF:=rFind27_D l e.main (by omega)
  cases t1:e.main !=0
  ·(repeat'(first|apply kA|apply kB|((first|refine kc (N:=44) ?_|apply kD|apply kE|refine kx hF ?_);simp +decide only[go_sem,hlt,hw,he,t1,Ent.enc])|(apply kG;(simp +decide only[go_sem,hlt,hw,he,t1,Ent.enc];rfl);all_goals(intro hcnd;try exact kz hcnd))|((first|apply kH|apply kI)<;>(intro hcnd;simp +decide only[go_sem,hcnd,hlt,hw,he,t1,Ent.enc]))))
   exact⟨forall_snoc htk hi (by rw[t1];rfl),kL rfl (by simp +decide only[go_sem]) (by simp[noMem])⟩
  ·cases t2:decide (idxF (fun x=>x.id==e.main) l<0)
   ·(repeat'(first|apply kA|apply kB|((first|refine kc (N:=44) ?_|apply kD|apply kE|refine kx hF ?_);simp +decide only[go_sem,hlt,hw,he,t1,t2,Ent.enc])|(apply kG;(simp +decide only[go_sem,hlt,hw,he,t1,t2,Ent.enc];rfl);all_goals(intro hcnd;try exact kz hcnd))|((first|apply kH|apply kI)<;>(intro hcnd;simp +decide only[go_sem,hcnd,hlt,hw,he,t1,t2,Ent.enc]))))
    exact⟨forall_snoc htk hi (by rw[t1,t2];rfl),kL rfl (by simp +decide only[go_sem]) (by simp[noMem])⟩
   ·rw[show (l.any fun e=>e.main !=0&&decide (idxF (fun x=>x.id==e.main) l<0))=true from List.any_eq_true.2 ⟨e,hm,by rw[t1,t2];rfl⟩,if_pos rfl]
    (repeat'(first|apply kA|apply kB|((first|refine kc (N:=44) ?_|apply kD|apply kE|refine kx hF ?_|apply kF);simp +decide only[go_sem,hlt,hw,he,t1,t2,Ent.enc])|(apply kG;(simp +decide only[go_sem,hlt,hw,he,t1,t2,Ent.enc];rfl);all_goals(intro hcnd;try exact kz hcnd))|((first|apply kH|apply kI)<;>(intro hcnd;simp +decide only[go_sem,hcnd,hlt,hw,he,t1,t2,Ent.enc]))))
 intro hlt hi
 rw[List.take_length]at hi
 rw[show (l.any fun e=>e.main !=0&&decide (idxF (fun x=>x.id==e.main) l<0))=false from by
  rw[List.any_eq_false];intro x hx;rw[hi x hx];decide,if_neg (by decide)]
 (repeat'(first|apply kA|apply kB|((first|refine kc (N:=44) ?_|apply kD|apply kE);simp +decide only[go_sem,hlt])|(apply kG;(simp +decide only[go_sem,hlt];rfl);all_goals(intro hcnd;try exact kz hcnd))|((first|apply kH|apply kI)<;>(intro hcnd;simp +decide only[go_sem,hcnd,hlt]))))
 refine dw_rngI l (fun k=>kn 44 [(0,dv (.sl 8 (l.map Ent.enc))),(4,dv (li k))] noMem) (fun k=>∀e∈l.take k,decide (l.length<(wayI l e.id).length)=false) (by omega) (kL rfl (by simp +decide only[go_sem]) (by simp[noMem])) (by simp) ?_ ?_
 ·intro k e he hk hm htk hlt hw hi
  have hW:=rWay_D l e.id hl
  cases t1:decide ((l.length:Int)<((wayI l e.id).length:Int))
  ·have t2:decide (l.length<(wayI l e.id).length)=false:=by simp at t1 ⊢;omega
   (repeat'(first|apply kA|apply kB|((first|refine kc (N:=44) ?_|apply kD|apply kE|refine kx hW ?_);simp +decide only[go_sem,hlt,hw,he,t1,Ent.enc])|(apply kG;(simp +decide only[go_sem,hlt,hw,he,t1,Ent.enc];rfl);all_goals(intro hcnd;try exact kz hcnd))|((first|apply kH|apply kI)<;>(intro hcnd;simp +decide only[go_sem,hcnd,hlt,hw,he,t1,Ent.enc]))))
   exact⟨forall_snoc htk hi t2,kL rfl (by simp +decide only[go_sem]) (by simp[noMem])⟩
  ·have t2:decide (l.length<(wayI l e.id).length)=true:=by simp at t1 ⊢;omega
   rw[show (l.any fun e=>decide (l.length<(wayI l e.id).length))=true from List.any_eq_true.2 ⟨e,hm,t2⟩,if_pos rfl]
   (repeat'(first|apply kA|apply kB|((first|refine kc (N:=44) ?_|apply kD|apply kE|refine kx hW ?_|apply kF);simp +decide only[go_sem,hlt,hw,he,t1,Ent.enc])|(apply kG;(simp +decide only[go_sem,hlt,hw,he,t1,Ent.enc];rfl);all_goals(intro hcnd;try exact kz hcnd))|((first|apply kH|apply kI)<;>(intro hcnd;simp +decide only[go_sem,hcnd,hlt,hw,he,t1,Ent.enc]))))
 ·intro hlt hi
  rw[List.take_length]at hi
  rw[show (l.any fun e=>decide (l.length<(wayI l e.id).length))=false from by
   rw[List.any_eq_false];intro x hx;rw[hi x hx];decide,if_neg (by decide)]
  (repeat'(first|apply kA|apply kB|((first|refine kc (N:=44) ?_|apply kD|apply kE|apply kF);simp +decide only[go_sem,hlt])|(apply kG;(simp +decide only[go_sem,hlt];rfl);all_goals(intro hcnd;try exact kz hcnd))|((first|apply kH|apply kI)<;>(intro hcnd;simp +decide only[go_sem,hcnd,hlt]))))
end Go.Proofs.YtehdkccjaeckhaaGreatDoor
namespace Go.Proofs.YtehdkccjaeckhaaGreatDoor
abbrev kq29:Nat→List (Nat×Go.Dl.Mode):=fun n=>match n with|4=>kpn29|_=> []
end Go.Proofs.YtehdkccjaeckhaaGreatDoor
namespace Go.Proofs.YtehdkccjaeckhaaGreatDoor.W
open Go.Dl
attribute [local irreducible] DW DCalls ECalls wk IW
def inv(k:Int):Int:=if k=0∨k=1 then k else if k=2 then 3 else if k=3 then 2 else if k=4 then 5 else if k=5 then 4 else -1
theorem rInverse_D(k:Int):DCalls Tryz.prog 105 [dv (li k)] (dv (li (inv k))):=by
 refine kd (N:=16) (rs:= [.tmp 2]) Tryz.func105 ?_
 (repeat'(first|apply kA|apply kB|((first|refine kc (N:=16) ?_|apply kD|apply kE|apply kF);simp +decide only[go_sem])|(apply kG;(simp +decide only[go_sem];rfl);all_goals(intro hcnd;try exact kz hcnd))))
 all_goals
  congr 3
  unfold inv;(repeat' split)<;>first|rfl|(exfalso;simp only[beq_iff_eq,beq_eq_false_iff_ne,ne_eq]at *;first|omega|simp_all)|(simp only[beq_iff_eq,beq_eq_false_iff_ne,ne_eq]at *;omega)
theorem rIn_D(xs:List Int)(n:Int)(hx:xs.length≤maxLen):DCalls Tryz.prog 108 [dv (.sl 1 (ints xs)),dv (li n)] (dv (lb (xs.any fun x=>x==n))):=by
 refine kd (N:=18) (rs:= [.tmp 4]) Tryz.func108 ?_
 (repeat(first|apply kA|apply kB|((first|refine kc (N:=18) ?_|apply kD|apply kE);simp +decide only[go_sem])))
 refine dw_rngI xs (fun k=>kn 18 [(0,dv (.sl 1 (ints xs))),(1,dv (li n)),(5,dv (li k))] noMem) (fun k=>∀x∈xs.take k,(x==n)=false) hx (kL rfl (by simp +decide only[go_sem]) (by simp[noMem])) (by simp) ?_ ?_
 ·intro k x hx hk hm htk hlt hw hi
  have hx':=ints_at hx
  (repeat'(first|apply kA|apply kB|((first|refine kc (N:=18) ?_|apply kD|apply kE|apply kF);simp +decide only[go_sem,hlt,hw,hx'])|(apply kG;(simp +decide only[go_sem,hlt,hw,hx'];rfl);all_goals(intro hcnd;try exact kz hcnd))))
  ·rw[any_true hm hcnd]
  ·exact⟨forall_snoc htk hi hcnd,kL rfl (by simp +decide only[go_sem]) (by simp[noMem])⟩
 ·intro hlt hi
  rw[List.take_length]at hi
  (repeat'(first|apply kA|apply kB|((first|refine kc (N:=18) ?_|apply kD|apply kE|apply kF);simp +decide only[go_sem,hlt])|(apply kG;(simp +decide only[go_sem,hlt];rfl);all_goals(intro hcnd;try exact kz hcnd))))
  have:(xs.any fun x=>x==n)=false:=by simpa using hi
  rw[this]
theorem rFind_D(l:List Ent)(id:Int)(hl:l.length≤1000000):DCalls Tryz.prog 106 [dv (.sl 8 (l.map Ent.enc)),dv (li id)] (dv (li (idxF (fun e=>e.id==id) l))):=by
 have hmax:maxLen=9223372036854775807:=rfl
 refine kd (N:=20) (rs:= [.tmp 4]) Tryz.func106 ?_
 (repeat(first|apply kA|apply kB|((first|refine kc (N:=20) ?_|apply kD|apply kE);simp +decide only[go_sem])))
 refine dw_rngI l (fun k=>kn 20 [(0,dv (.sl 8 (l.map Ent.enc))),(1,dv (li id)),(5,dv (li k))] noMem) (fun k=>∀e∈l.take k,(e.id==id)=false) (by omega) (kL rfl (by simp +decide only[go_sem]) (by simp[noMem])) (by simp) ?_ ?_
 ·intro k e he hk hm htk hlt hw hi
  (repeat'(first|apply kA|apply kB|((first|refine kc (N:=20) ?_|apply kD|apply kE|apply kF);simp +decide only[go_sem,hlt,hw,he,Ent.enc])|(apply kG;(simp +decide only[go_sem,hlt,hw,he,Ent.enc];rfl);all_goals(intro hcnd;try exact kz hcnd))))
  ·rw[idxF_at he hi hcnd]
  ·exact⟨forall_snoc htk hi hcnd,kL rfl (by simp +decide only[go_sem]) (by simp[noMem])⟩
 ·intro hlt hi
  rw[List.take_length]at hi
  (repeat'(first|apply kA|apply kB|((first|refine kc (N:=20) ?_|apply kD|apply kE|apply kF);simp +decide only[go_sem,hlt])|(apply kG;(simp +decide only[go_sem,hlt];rfl);all_goals(intro hcnd;try exact kz hcnd))))
  rw[idxF_no hi]
theorem lnk_eq(x y:Lnk):(x.kind==y.kind&&(x.tgt==y.tgt))=decide (x=y):=by rw[Bool.eq_iff_iff];cases x;cases y;simp
def hasL(e:Ent)(x:Lnk):Bool:=e.links.any fun y=>decide (x=y)
theorem rHas_D(e:Ent)(x:Lnk)(hl:e.links.length≤maxLen):DCalls Tryz.prog 107 [.agg e.row,.agg x.row] (dv (lb (hasL e x))):=by
 refine kd (N:=20) (rs:= [.tmp 4]) Tryz.func107 ?_
 (repeat(first|apply kA|apply kB|((first|refine kc (N:=20) ?_|refine kj (N:=20) kq29 ?_|apply kD|apply kE);simp +decide only[go_sem,Lnk.row,Ent.row])))
 refine dw_rngI e.links (fun k=>kn 20 [(2,.one (.bx 2 8 0 0)),(3,.one (.bx 3 2 0 0)),(5,dv (li k))] (ml [(2,[e.row]),(3,[x.row])])) (fun k=>∀y∈e.links.take k,decide (x=y)=false) hl (kM rfl (by simp +decide only[go_sem]) (by simp +decide only[go_sem]<;>exact⟨rfl,rfl⟩)) (by simp) ?_ ?_
 ·intro k y hy hk hm htk hlt hw hi
  have he:(y.kind==x.kind&&(y.tgt==x.tgt))=decide (x=y):=by rw[← lnk_eq,Bool.beq_comm (a:=x.kind),Bool.beq_comm (a:=x.tgt)]
  (repeat'(first|apply kA|apply kB|((first|refine kc (N:=20) ?_|refine kj (N:=20) kq29 ?_|apply kD|apply kE|apply kF);simp +decide only[go_sem,hlt,hw,hy,he,Lnk.enc,Lnk.row,Ent.row])|(apply kG;(simp +decide only[go_sem,hlt,hw,hy,he,Lnk.enc,Lnk.row,Ent.row];rfl);all_goals(intro hcnd;try exact kz hcnd))))
  ·rw[hasL,any_true hm hcnd]
  ·exact⟨forall_snoc htk hi hcnd,kM rfl (by simp +decide only[go_sem]) (by simp +decide only[go_sem,Lnk.row,Ent.row])⟩
 ·intro hlt hi
  rw[List.take_length]at hi
  (repeat'(first|apply kA|apply kB|((first|refine kc (N:=20) ?_|refine kj (N:=20) kq29 ?_|apply kD|apply kE|apply kF);simp +decide only[go_sem,hlt,Ent.row])|(apply kG;(simp +decide only[go_sem,hlt,Ent.row];rfl);all_goals(intro hcnd;try exact kz hcnd))))
  have:hasL e x=false:=by simpa[hasL]using hi
  rw[this]
def stepL(l:List Ent)(kind:Int)(rec:Int→List Int→List Int)(out:List Int)(x:Lnk):List Int:=
 if x.kind !=kind||out.any (fun y=>x.tgt==y)then out else if(getE l x.tgt).2 then rec x.tgt (out++ [x.tgt])else out
def free(l:List Ent)(out:List Int):Nat:=l.countP fun e=> !(out.any fun y=>e.id==y)
theorem getE_some{l:List Ent}{id:Int}(h:(getE l id).2=true): ∃e∈l,e.id=id:=by
 unfold getE at h
 split at h
 ·rename_i e he
  have h1:=List.find?_some he
  exact⟨e,List.mem_of_find?_eq_some he,by simpa using h1⟩
 ·cases h
theorem countP_lt{α:Type}{p q:α→Bool}{l:List α}(h: ∀x∈l,q x=true→p x=true)(hx: ∃x∈l,p x=true∧q x=false):l.countP q<l.countP p:=by
 induction l with
 | nil=>obtain⟨x,hx,_⟩:=hx;simp at hx
 | cons y l ih=>
  have hle:l.countP q≤l.countP p:=List.countP_mono_left fun x hx'=>h x (List.mem_cons_of_mem _ hx')
  obtain⟨x,hx,h1,h2⟩:=hx
  rw[List.countP_cons,List.countP_cons]
  rcases List.mem_cons.1 hx with rfl|hx
  ·simp[h1,h2];omega
  ·have:=ih (fun z hz=>h z (List.mem_cons_of_mem _ hz)) ⟨x,hx,h1,h2⟩
   have hy:=h y (by simp)
   cases hq:q y<;>cases hp:p y<;>simp_all<;>omega
theorem free_snoc{l:List Ent}{out:List Int}{id:Int}(h:(getE l id).2=true)(hn:(out.any fun y=>id==y)=false):free l (out++ [id])+1≤free l out:=by
 refine countP_lt (fun e _ he=>?_) ?_
 ·simp only[List.any_append,Bool.not_or,Bool.and_eq_true]at he;exact he.1
 ·obtain⟨e,he,rfl⟩:=getE_some h
  exact⟨e,he,by simpa using hn,by simp⟩
def Grow(l:List Ent)(out out':List Int):Prop:=free l out'≤free l out∧out'.length+free l out'≤out.length+free l out
theorem Grow.refl(l:List Ent)(out:List Int):Grow l out out:=⟨Nat.le_refl _,Nat.le_refl _⟩
theorem Grow.trans{l:List Ent}{a b c:List Int}(h:Grow l a b)(k:Grow l b c):Grow l a c:=⟨Nat.le_trans k.1 h.1,Nat.le_trans k.2 h.2⟩
theorem grow_step{l:List Ent}{kind:Int}{rec:Int→List Int→List Int}(hr: ∀id out,Grow l out (rec id out))(out:List Int)(x:Lnk):Grow l out (stepL l kind rec out x):=by
 unfold stepL
 split
 ·exact Grow.refl l out
 ·rename_i h
  split
  ·rename_i hg
   simp only[Bool.or_eq_true,not_or,Bool.not_eq_true]at h
   have:=free_snoc hg h.2
   exact Grow.trans ⟨by omega,by simp;omega⟩ (hr x.tgt (out++ [x.tgt]))
  ·exact Grow.refl l out
theorem grow_fold{l:List Ent}{kind:Int}{rec:Int→List Int→List Int}(hr: ∀id out,Grow l out (rec id out)): ∀(xs:List Lnk) (out:List Int),Grow l out (xs.foldl (stepL l kind rec) out)
 | [],out=>Grow.refl l out
 | x::xs,out=>(grow_step hr out x).trans (grow_fold hr xs _)
def SmallE(l:List Ent):Prop:=l.length≤1000000∧∀e∈l,e.links.length≤1000000
def idR:Int→List Int→List Int:=fun _ o=>o
def bfsIn(l:List Ent)(kind:Int)(S:List Int)(id:Int):List Int:=(getE l id).1.links.foldl (stepL l kind idR) S
def bfsN(l:List Ent)(id kind:Int):Nat→List Int×List Int
 | 0=>([],[id])
 | n+1=>((bfsN l id kind n).2.foldl (bfsIn l kind) (bfsN l id kind n).1,((bfsN l id kind n).2.foldl (bfsIn l kind) (bfsN l id kind n).1).drop (bfsN l id kind n).1.length)
def metIn(S:List Int)(e:Ent):Bool:=S.any fun y=>e.id==y
def reachR(l:List Ent)(id kind:Int):List Int:=(l.filter (metIn (bfsN l id kind (l.length+1)).1)).map (·.id)
def mRows(l:List Ent)(S:List Int):Dl.Rows:=l.map fun e=> [T.c (lb (metIn S e))]
theorem mRows_tr(r:Ren)(l:List Ent)(S:List Int):Dl.Rows.tr r (mRows l S)=mRows l S:=by simp[mRows,Dl.Rows.tr,T.trAll,T.tr]
attribute [go_sem] mRows_tr
def Distinct(l:List Ent):Prop:=(l.map (·.id)).Pairwise (· ≠ ·)
theorem distinct_at{l:List Ent}(h:Distinct l){i j:Nat}{x y:Ent}(hx:l[i]? =some x)(hy:l[j]? =some y)(hij:i≠j):x.id≠y.id:=by
 obtain⟨hi,rfl⟩:=List.getElem?_eq_some_iff.1 hx
 obtain⟨hj,rfl⟩:=List.getElem?_eq_some_iff.1 hy
 have hp:=List.pairwise_iff_getElem.1 h
 rcases Nat.lt_or_ge i j with h1|h1
 ·have:=hp i j (by simpa using hi) (by simpa using hj) h1
  simpa using this
 ·have:=hp j i (by simpa using hj) (by simpa using hi) (by omega)
  simpa using Ne.symm this
theorem mRows_set{l:List Ent}(h:Distinct l){S:List Int}{j:Nat}{e:Ent}(he:l[j]? =some e):(mRows l S).set j [T.c (lb true)]=mRows l (S++ [e.id]):=by
 apply List.ext_getElem?
 intro i
 rw[List.getElem?_set]
 split
 ·rename_i hji
  subst hji
  have hlt:=(List.getElem?_eq_some_iff.1 he).1
  simp[mRows,hlt,metIn,(List.getElem?_eq_some_iff.1 he).2]
 ·rename_i hji
  simp only[mRows,List.getElem?_map]
  cases hi:l[i]? with
  | none=>rfl
  | some x=>
   have:=distinct_at h hi he (Ne.symm hji)
   simp[metIn,this]
theorem mRows_at{l:List Ent}{S:List Int}{j:Nat}{e:Ent}(he:l[j]? =some e):(mRows l S)[j]? =some [T.c (lb (S.any fun y=>e.id==y))]:=by
 simp[mRows,he,metIn]
theorem grow_id(l:List Ent): ∀(id:Int) (out:List Int),Grow l out (idR id out):=fun _ out=>Grow.refl l out
theorem pre_step(l:List Ent)(kind:Int)(S:List Int)(x:Lnk):S <+: stepL l kind idR S x:=by
 unfold stepL idR
 split
 ·exact List.prefix_refl _
 ·split
  ·exact List.prefix_append _ _
  ·exact List.prefix_refl _
theorem pre_fold(l:List Ent)(kind:Int): ∀(xs:List Lnk) (S:List Int),S <+: xs.foldl (stepL l kind idR) S
 | [],S=>List.prefix_refl _
 | x::xs,S=>(pre_step l kind S x).trans (pre_fold l kind xs _)
theorem pre_in(l:List Ent)(kind:Int)(S:List Int)(id:Int):S <+: bfsIn l kind S id:=pre_fold l kind _ S
theorem pre_ins(l:List Ent)(kind:Int): ∀(ids:List Int) (S:List Int),S <+: ids.foldl (bfsIn l kind) S
 | [],S=>List.prefix_refl _
 | x::xs,S=>(pre_in l kind S x).trans (pre_ins l kind xs _)
theorem grow_ins(l:List Ent)(kind:Int): ∀(ids:List Int) (S:List Int),Grow l S (ids.foldl (bfsIn l kind) S)
 | [],S=>Grow.refl l S
 | x::xs,S=>(grow_fold (grow_id l) _ S).trans (grow_ins l kind xs _)
theorem grow_bfs(l:List Ent)(id kind:Int): ∀n,Grow l [] (bfsN l id kind n).1
 | 0=>Grow.refl l []
 | n+1=>(grow_bfs l id kind n).trans (grow_ins l kind _ _)
theorem grow_len{l:List Ent}{S:List Int}(h:Grow l [] S):S.length≤l.length:=by
 have h1:=h.2
 have h2:free l []≤l.length:=List.countP_le_length
 simp at h1;omega
theorem rReach_D(l:List Ent)(id kind:Int)(hl:SmallE l)(hd:Distinct l):DCalls Tryz.prog 109 [dv (.sl 8 (l.map Ent.enc)),dv (li id),dv (li kind)] (dv (.sl 1 (ints (reachR l id kind)))):=by
 have hmax:maxLen=9223372036854775807:=rfl
 have hlen:=hl.1
 have hb4:Tryz.t4.bytes*l.length≤281474976710656:=by
  have:Tryz.t4.bytes=1:=by kernel_rfl
  rw[this];omega
 have hrep:List.replicate l.length [T.c (lb false)]=mRows l []:=by
  simp[mRows,metIn,List.map_const']
 refine kd (N:=110) (rs:= [.tmp 6]) Tryz.func109 ?_
 (repeat'(first|apply kA|apply kB|((first|refine kc (N:=110) ?_|apply kD|apply kE);simp +decide only[go_sem])|(apply kG;(simp +decide only[go_sem];rfl);all_goals(intro hcnd;try exact kz hcnd))|((first|apply kH|apply kI)<;>(intro hcnd;simp +decide only[go_sem,hcnd]))))
 refine StepC.mk (Step.makeSlice (n:=l.length) (e:=4) (z:= [T.c (lb false)]) (inf:=Tryz.t4) (kx:=.i64) (ky:=.i64) rfl rfl (by kernel_rfl) (by kernel_rfl) (by kernel_rfl) (by decide) (by kernel_rfl) (by simp +decide only[go_sem]) (by simp +decide only[go_sem]) (by simp;omega) hb4 (by omega) ?_)
 rw[hrep]
 simp +decide only[go_sem]
 (repeat'(first|apply kA|apply kB|((first|refine kc (N:=110) ?_|apply kD|apply kE);simp +decide only[go_sem])|(apply kG;(simp +decide only[go_sem];rfl);all_goals(intro hcnd;try exact kz hcnd))|((first|apply kH|apply kI)<;>(intro hcnd;simp +decide only[go_sem,hcnd]))))
 refine dw_after (fun _:Unit=>kn 110 [(0,dv (.sl 8 (l.map Ent.enc))),(7,.one (.ba 20 1 0 l.length l.length))] (ml [(20,mRows l (bfsN l id kind (l.length+1)).1)])) (fun _=>True) ?_ ?_
 ·refine dw_loop_fam (fun r:Nat=>kn 110 [(0,dv (.sl 8 (l.map Ent.enc))),(2,dv (li kind)),(7,.one (.ba 20 1 0 l.length l.length)),(8,dv (.sl 1 (ints (bfsN l id kind r).2))),(9,dv (li r))] (ml [(20,mRows l (bfsN l id kind r).1)])) (fun r=>r≤l.length+1) (fun r=>l.length+1 - r) 0
   (kM rfl (by simp +decide only[go_sem,bfsN,ints]) (by simp +decide only[go_sem,bfsN])) (by omega) ?_
  intro r hr
  cases hrl:decide ((r:Int)≤(l.length:Int))
  ·have hre:r=l.length+1:=by simp at hrl;omega
   (repeat'(first|apply kA|apply kB|((first|refine kc (N:=110) ?_|apply kD|apply kE);simp +decide only[go_sem,hrl])|(apply kG;(simp +decide only[go_sem,hrl];rfl);all_goals(intro hcnd;try exact kz hcnd))|((first|apply kH|apply kI)<;>(intro hcnd;simp +decide only[go_sem,hcnd,hrl]))))
   first
    | exact⟨(),trivial,kM rfl (by simp +decide only[go_sem]) (by simp +decide only[go_sem,hre])⟩
    | exact⟨(),kM rfl (by simp +decide only[go_sem]) (by simp +decide only[go_sem,hre])⟩
  have hwr:=wrap_succ r (by omega)
  obtain⟨S,hS⟩: ∃S,S=(bfsN l id kind r).1:=⟨_,rfl⟩
  obtain⟨nx,hnx⟩: ∃nx,nx=(bfsN l id kind r).2:=⟨_,rfl⟩
  have hg0:Grow l [] S:=hS▸grow_bfs l id kind r
  have hS1:(bfsN l id kind (r+1)).1=nx.foldl (bfsIn l kind) S:=by rw[hS,hnx];rfl
  have hS2:(bfsN l id kind (r+1)).2=(nx.foldl (bfsIn l kind) S).drop S.length:=by rw[hS,hnx];rfl
  have hnl:nx.length≤1000000:=by
   rw[hnx]
   cases r with
   | zero=>simp[bfsN]
   | succ r=>
    have h1:=grow_len (grow_bfs l id kind (r+1))
    have h2:(bfsN l id kind (r+1)).2=((bfsN l id kind (r+1)).1).drop (bfsN l id kind r).1.length:=rfl
    rw[h2];simp;omega
  rw[← hS,← hnx]
  (repeat'(first|apply kA|apply kB|((first|refine kc (N:=110) ?_|apply kD|apply kE);simp +decide only[go_sem,hrl])|(apply kG;(simp +decide only[go_sem,hrl];rfl);all_goals(intro hcnd;try exact kz hcnd))|((first|apply kH|apply kI)<;>(intro hcnd;simp +decide only[go_sem,hcnd,hrl]))))
  refine dw_own 10 10 1 (by simp +decide only[go_sem]) ?_
  refine dw_rng0 nx (fun k=>kn 110 [(0,dv (.sl 8 (l.map Ent.enc))),(2,dv (li kind)),(7,.one (.ba 20 1 0 l.length l.length)),(8,dv (.sl 1 (ints nx))),(9,dv (li r)),(10,.one (.own 10 1 (ints (((nx.take k).foldl (bfsIn l kind) S).drop S.length)))),(11,dv (li k))] (ml [(20,mRows l ((nx.take k).foldl (bfsIn l kind) S))])) (by omega)
   (kM rfl (by simp +decide only[go_sem,List.take_zero,List.foldl_nil,List.drop_length,ints]) (by simp +decide only[go_sem,List.take_zero,List.foldl_nil])) ?_ ?_
  ·intro k nid hk hkl hkm htk hlt hw
   obtain⟨Sk,hSk⟩: ∃Sk,Sk=(nx.take k).foldl (bfsIn l kind) S:=⟨_,rfl⟩
   have hSk1:(nx.take (k+1)).foldl (bfsIn l kind) S=bfsIn l kind Sk nid:=by rw[htk,List.foldl_append,hSk];rfl
   have hgk:Grow l [] Sk:=hSk▸hg0.trans (grow_ins l kind _ _)
   have hpk:S <+: Sk:=hSk▸pre_ins l kind _ _
   rw[← hSk,hSk1]
   have hxi:=ints_at hk
   have hfd:=rFind_D l nid hl.1
   cases hf:l.find? (fun e=>e.id==nid)with
   | none=>
    rw[idxF_no (find_nex hf)]at hfd
    have hb:bfsIn l kind Sk nid=Sk:=by simp[bfsIn,getE,hf,noEnt]
    rw[hb]
    (repeat'(first|apply kA|apply kB|((first|refine kc (N:=110) ?_|apply kD|apply kE|refine kx hfd ?_|apply kF);simp +decide only[go_sem,hlt,hw,hxi])|(apply kG;(simp +decide only[go_sem,hlt,hw,hxi];rfl);all_goals(intro hcnd;try exact kz hcnd))|((first|apply kH|apply kI)<;>(intro hcnd;simp +decide only[go_sem,hcnd,hlt,hw,hxi]))))
    refine dw_rng0 ([]:List Lnk) (fun j=>kn 110 [(0,dv (.sl 8 (l.map Ent.enc))),(2,dv (li kind)),(7,.one (.ba 20 1 0 l.length l.length)),(8,dv (.sl 1 (ints nx))),(9,dv (li r)),(10,.one (.own 10 1 (ints (Sk.drop S.length)))),(11,dv (li k)),(12,dv (li (-1)))] (ml [(20,mRows l Sk)])) (by simp)
     (kM rfl (by simp +decide only[go_sem]) (by simp +decide only[go_sem])) (fun j x hx=>by simp at hx) ?_
    intro _
    have hm1:decide ((0:Int)≤ -1)=false:=by decide
    (repeat'(first|apply kA|apply kB|((first|refine kc (N:=110) ?_|apply kD|apply kE);simp +decide only[go_sem,hm1,hw])|(apply kG;(simp +decide only[go_sem,hm1,hw];rfl);all_goals(intro hcnd;try exact kz hcnd))|((first|apply kH|apply kI)<;>(intro hcnd;simp +decide only[go_sem,hcnd,hm1,hw]))))
    exact kM rfl (by simp +decide only[go_sem]) (by simp +decide only[go_sem])
   | some e=>
    obtain⟨i,hi,hii,hiq⟩:=find_ex hf
    rw[idxF_at hi hii hiq]at hfd
    have hb:bfsIn l kind Sk nid=e.links.foldl (stepL l kind idR) Sk:=by simp[bfsIn,getE,hf]
    have hel:e.links.length≤1000000:=hl.2 e (List.mem_of_getElem? hi)
    have h0i:decide ((0:Int)≤(i:Int))=true:=by simp
    have hil:i<l.length:=(List.getElem?_eq_some_iff.1 hi).1
    rw[hb]
    (repeat'(first|apply kA|apply kB|((first|refine kc (N:=110) ?_|apply kD|apply kE|refine kx hfd ?_|apply kF);simp +decide only[go_sem,hlt,hw,hxi])|(apply kG;(simp +decide only[go_sem,hlt,hw,hxi];rfl);all_goals(intro hcnd;try exact kz hcnd))|((first|apply kH|apply kI)<;>(intro hcnd;simp +decide only[go_sem,hcnd,hlt,hw,hxi]))))
    refine dw_rng0 e.links (fun j=>kn 110 [(0,dv (.sl 8 (l.map Ent.enc))),(2,dv (li kind)),(7,.one (.ba 20 1 0 l.length l.length)),(8,dv (.sl 1 (ints nx))),(9,dv (li r)),(10,.one (.own 10 1 (ints (((e.links.take j).foldl (stepL l kind idR) Sk).drop S.length)))),(11,dv (li k)),(12,dv (li i)),(13,dv (li j))] (ml [(20,mRows l ((e.links.take j).foldl (stepL l kind idR) Sk))])) (by omega)
     (kM rfl (by simp +decide only[go_sem,List.take_zero,List.foldl_nil]) (by simp +decide only[go_sem,List.take_zero,List.foldl_nil])) ?_ ?_
    ·intro j x hx hj hjm htj hltj hwj
     obtain⟨cur,hcur⟩: ∃cur,cur=(e.links.take j).foldl (stepL l kind idR) Sk:=⟨_,rfl⟩
     have hc1:(e.links.take (j+1)).foldl (stepL l kind idR) Sk=stepL l kind idR cur x:=by rw[htj,List.foldl_append,hcur];rfl
     have hgc:Grow l [] cur:=hcur▸hgk.trans (grow_fold (grow_id l) _ _)
     have hpc:S <+: cur:=hpk.trans (hcur▸pre_fold l kind _ _)
     have hcl:=grow_len hgc
     have hsl:S.length≤cur.length:=hpc.length_le
     rw[← hcur,hc1]
     have hfx:=rFind_D l x.tgt hl.1
     cases h1:x.kind==kind
     ·have h1':(x.kind !=kind)=true:=by simp[bne,h1]
      have hst:stepL l kind idR cur x=cur:=by simp[stepL,h1']
      rw[hst]
      (repeat'(first|apply kA|apply kB|((first|refine kc (N:=110) ?_|apply kD|apply kE|refine kx hfx ?_|apply kF);simp +decide only[go_sem,hltj,hwj,hi,hx,h0i,h1,Ent.enc,Lnk.enc])|(apply kG;(simp +decide only[go_sem,hltj,hwj,hi,hx,h0i,h1,Ent.enc,Lnk.enc];rfl);all_goals(intro hcnd;try exact kz hcnd))|((first|apply kH|apply kI)<;>(intro hcnd;simp +decide only[go_sem,hcnd,hltj,hwj,hi,hx,h0i,h1,Ent.enc,Lnk.enc]))))
      exact kM rfl (by simp +decide only[go_sem]) (by simp +decide only[go_sem])
     ·have h1':(x.kind !=kind)=false:=by simp[bne,h1]
      cases hf2:l.find? (fun e=>e.id==x.tgt)with
      | none=>
       rw[idxF_no (find_nex hf2)]at hfx
       have hst:stepL l kind idR cur x=cur:=by simp[stepL,getE,hf2]
       have hm1:decide ((0:Int)≤ -1)=false:=by decide
       rw[hst]
       (repeat'(first|apply kA|apply kB|((first|refine kc (N:=110) ?_|apply kD|apply kE|refine kx hfx ?_|apply kF);simp +decide only[go_sem,hltj,hwj,hi,hx,h0i,h1,hm1,Ent.enc,Lnk.enc])|(apply kG;(simp +decide only[go_sem,hltj,hwj,hi,hx,h0i,h1,hm1,Ent.enc,Lnk.enc];rfl);all_goals(intro hcnd;try exact kz hcnd))|((first|apply kH|apply kI)<;>(intro hcnd;simp +decide only[go_sem,hcnd,hltj,hwj,hi,hx,h0i,h1,hm1,Ent.enc,Lnk.enc]))))
       exact kM rfl (by simp +decide only[go_sem]) (by simp +decide only[go_sem])
      | some e2=>
       obtain⟨i2,hi2,hii2,hiq2⟩:=find_ex hf2
       rw[idxF_at hi2 hii2 hiq2]at hfx
       have he2:e2.id=x.tgt:=by simpa using hiq2
       have h0i2:decide ((0:Int)≤(i2:Int))=true:=by simp
       have hil2:i2<l.length:=(List.getElem?_eq_some_iff.1 hi2).1
       have hma:=mRows_at (S:=cur) hi2
       have hms:=mRows_set hd (S:=cur) hi2
       rw[he2]at hma hms
       cases h3:cur.any fun y=>x.tgt==y
       ·have hst:stepL l kind idR cur x=cur++ [x.tgt]:=by simp[stepL,h1',h3,getE,hf2,idR]
        have hdr:(cur++ [x.tgt]).drop S.length=cur.drop S.length++ [x.tgt]:=List.drop_append_of_le_length hsl
        have hdl:(cur.drop S.length).length≤1000000:=by simp;omega
        have hb8:((cur.drop S.length).length+1)*8≤140737488355328:=by omega
        rw[hst]
        (repeat'(first|apply kA|apply kB|((first|refine kc (N:=110) ?_|apply kD|apply kE|refine kx hfx ?_|apply kF);simp +decide only[go_sem,hltj,hwj,hi,hx,h0i,h1,h0i2,hil2,hma,h3,hms,hb8,Ent.enc,Lnk.enc])|(apply kG;(simp +decide only[go_sem,hltj,hwj,hi,hx,h0i,h1,h0i2,hil2,hma,h3,hms,hb8,Ent.enc,Lnk.enc];rfl);all_goals(intro hcnd;try exact kz hcnd))|((first|apply kH|apply kI)<;>(intro hcnd;simp +decide only[go_sem,hcnd,hltj,hwj,hi,hx,h0i,h1,h0i2,hil2,hma,h3,hms,hb8,Ent.enc,Lnk.enc]))))
        exact kM rfl (by simp +decide only[go_sem,hdr,ints,List.map_append]) (by simp +decide only[go_sem])
       ·have hst:stepL l kind idR cur x=cur:=by simp[stepL,h1',h3]
        rw[hst]
        (repeat'(first|apply kA|apply kB|((first|refine kc (N:=110) ?_|apply kD|apply kE|refine kx hfx ?_|apply kF);simp +decide only[go_sem,hltj,hwj,hi,hx,h0i,h1,h0i2,hil2,hma,h3,Ent.enc,Lnk.enc])|(apply kG;(simp +decide only[go_sem,hltj,hwj,hi,hx,h0i,h1,h0i2,hil2,hma,h3,Ent.enc,Lnk.enc];rfl);all_goals(intro hcnd;try exact kz hcnd))|((first|apply kH|apply kI)<;>(intro hcnd;simp +decide only[go_sem,hcnd,hltj,hwj,hi,hx,h0i,h1,h0i2,hil2,hma,h3,Ent.enc,Lnk.enc]))))
        exact kM rfl (by simp +decide only[go_sem]) (by simp +decide only[go_sem])
    ·intro hltj
     rw[List.take_length]
     (repeat'(first|apply kA|apply kB|((first|refine kc (N:=110) ?_|apply kD|apply kE);simp +decide only[go_sem,hltj,hw,hi,h0i,Ent.enc])|(apply kG;(simp +decide only[go_sem,hltj,hw,hi,h0i,Ent.enc];rfl);all_goals(intro hcnd;try exact kz hcnd))|((first|apply kH|apply kI)<;>(intro hcnd;simp +decide only[go_sem,hcnd,hltj,hw,hi,h0i,Ent.enc]))))
     exact kM rfl (by simp +decide only[go_sem]) (by simp +decide only[go_sem])
  ·intro hlt
   rw[List.take_length]
   (repeat'(first|apply kA|apply kB|((first|refine kc (N:=110) ?_|apply kD|apply kE);simp +decide only[go_sem,hlt,hwr])|(apply kG;(simp +decide only[go_sem,hlt,hwr];rfl);all_goals(intro hcnd;try exact kz hcnd))|((first|apply kH|apply kI)<;>(intro hcnd;simp +decide only[go_sem,hcnd,hlt,hwr]))))
   exact⟨r+1,by simp at hrl;omega,by simp at hrl;omega,kM rfl (by simp +decide only[go_sem,hS2]) (by simp +decide only[go_sem,hS1])⟩
 rintro - -
 obtain⟨S,hS⟩: ∃S,S=(bfsN l id kind (l.length+1)).1:=⟨_,rfl⟩
 have hR:reachR l id kind=(l.filter (metIn S)).map (·.id):=by rw[hS];rfl
 rw[← hS,hR]
 (repeat'(first|apply kA|apply kB|((first|refine kc (N:=110) ?_|apply kD|apply kE);simp +decide only[go_sem])|(apply kG;(simp +decide only[go_sem];rfl);all_goals(intro hcnd;try exact kz hcnd))|((first|apply kH|apply kI)<;>(intro hcnd;simp +decide only[go_sem,hcnd]))))
 refine dw_own 16 16 1 (by simp +decide only[go_sem]) ?_
 refine dw_rng0 l (fun k=>kn 110 [(0,dv (.sl 8 (l.map Ent.enc))),(7,.one (.ba 20 1 0 l.length l.length)),(16,.one (.own 16 1 (ints (((l.take k).filter (metIn S)).map (·.id))))),(17,dv (li k))] (ml [(20,mRows l S)])) (by omega)
  (kM rfl (by simp +decide only[go_sem,List.take_zero,List.filter_nil,ints]) (by simp +decide only[go_sem])) ?_ ?_
 ·intro k e he hk hm htk hlt hw
  have hfil:((l.take (k+1)).filter (metIn S)).map (·.id)=((l.take k).filter (metIn S)).map (·.id)++if metIn S e then [e.id]else []:=by
   rw[htk,List.filter_append,List.map_append];congr 1;cases h:metIn S e<;>simp[List.filter_cons,h]
  have hle:((l.take k).filter (metIn S)).length≤k:=by
   have h1:=List.length_filter_le (metIn S) (l.take k)
   have h2:(l.take k).length≤k:=by simp;omega
   omega
  have hb8:((((l.take k).filter (metIn S)).map (·.id)).length+1)*8≤140737488355328:=by simp only[List.length_map];omega
  have hma:(mRows l S)[k]? =some [T.c (lb (metIn S e))]:=mRows_at he
  cases h4:metIn S e
  ·(repeat'(first|apply kA|apply kB|((first|refine kc (N:=110) ?_|apply kD|apply kE);simp +decide only[go_sem,hlt,hw,he,hk,hma,h4,Ent.enc])|(apply kG;(simp +decide only[go_sem,hlt,hw,he,hk,hma,h4,Ent.enc];rfl);all_goals(intro hcnd;try exact kz hcnd))|((first|apply kH|apply kI)<;>(intro hcnd;simp +decide only[go_sem,hcnd,hlt,hw,he,hk,hma,h4,Ent.enc]))))
   exact kM rfl (by simp +decide only[go_sem,hfil,h4,List.append_nil]) (by simp +decide only[go_sem])
  ·have hb9:(((l.take k).filter (metIn S)).length+1)*8≤140737488355328:=by omega
   (repeat'(first|apply kA|apply kB|((first|refine kc (N:=110) ?_|apply kD|apply kE);simp +decide only[go_sem,hlt,hw,he,hk,hma,h4,hb8,hb9,Ent.enc])|(apply kG;(simp +decide only[go_sem,hlt,hw,he,hk,hma,h4,hb8,hb9,Ent.enc];rfl);all_goals(intro hcnd;try exact kz hcnd))|((first|apply kH|apply kI)<;>(intro hcnd;simp +decide only[go_sem,hcnd,hlt,hw,he,hk,hma,h4,hb8,hb9,Ent.enc]))))
   exact kM rfl (by simp +decide only[go_sem,hfil,h4,ints,List.map_append]) (by simp +decide only[go_sem])
 ·intro hlt
  rw[List.take_length]
  (repeat'(first|apply kA|apply kB|((first|refine kc (N:=110) ?_|apply kD|apply kE);simp +decide only[go_sem,hlt])|(apply kG;(simp +decide only[go_sem,hlt];rfl);all_goals(intro hcnd;try exact kz hcnd))|((first|apply kH|apply kI)<;>(intro hcnd;simp +decide only[go_sem,hcnd,hlt]))))
  refine kK (kL (N:=110) (sls:= [(6,dv (.sl 1 (ints ((l.filter (metIn S)).map (·.id)))))]) (bx:=noMem) rfl (by simp +decide only[go_sem]) (by simp[noMem])) ?_
  apply kF;simp +decide only[go_sem]
end Go.Proofs.YtehdkccjaeckhaaGreatDoor.W
namespace Go.Proofs.YtehdkccjaeckhaaGreatDoor
abbrev kpn31:List (Nat×Go.Dl.Mode):= [(0,.light),(1,.light),(2,.light),(3,.light),(4,.light),(5,.light),(6,.light),(7,.light),(8,.light),(9,.light),(10,.light),(11,.light),(12,.light),(13,.step),(14,.light)]
abbrev kpn32:List (Nat×Go.Dl.Mode):= [(0,.light),(1,.light),(2,.light),(3,.light),(4,.light),(5,.light),(6,.light),(7,.light),(8,.light),(9,.light),(10,.light),(11,.light),(12,.step),(13,.light),(14,.light),(15,.light),(16,.light),(17,.light),(18,.light),(19,.light),(20,.light),(21,.light),(22,.light),(23,.light),(24,.light),(25,.light),(26,.step),(27,.light)]
abbrev kq30:Nat→List (Nat×Go.Dl.Mode):=fun n=>match n with|13=>kpn31|18=>kpn32|_=> []
end Go.Proofs.YtehdkccjaeckhaaGreatDoor
namespace Go.Proofs.YtehdkccjaeckhaaGreatDoor.W
open Go.Dl
attribute [local irreducible] DW DCalls ECalls wk IW
def MidE(l:List Ent):Prop:=l.length≤100000∧∀e∈l,e.links.length≤100000
theorem MidE.small{l:List Ent}(h:MidE l):SmallE l:=⟨by have:=h.1;omega,fun e he=>by have:=h.2 e he;omega⟩
theorem reachR_len(l:List Ent)(id kind:Int):(reachR l id kind).length≤l.length:=by
 rw[reachR,List.length_map];exact List.length_filter_le _ _
def errL(l:List Ent)(e:Ent)(x:Lnk):Option Int:=
 if inv x.kind<0 then some 14 else if(getE l x.tgt).2=false then some 9 else if hasL (getE l x.tgt).1 ⟨inv x.kind,e.id⟩=false then some 1 else none
def errE(l:List Ent)(e:Ent):Option Int:=e.links.findSome? (errL l e)
def ring(rch:Int→Int→List Int)(e:Ent):Bool:=decide (e.id∈rch e.id 2)||decide (e.id∈rch e.id 4)
def chkF(l:List Ent)(rch:Int→Int→List Int):Int:=
 match l.findSome? (errE l)with
 | some c=>c
 | none=>if l.any (ring rch)then 17 else 0
theorem any_r(xs:List Int)(n:Int):(xs.any fun x=>x==n)=decide (n∈xs):=by rw[Bool.eq_iff_iff];simp
theorem fs_at{α β:Type}{g:α→Option β}: ∀{l:List α} {k:Nat} {x:α} {c:β},l[k]? =some x→(∀y∈l.take k,g y=none)→g x=some c→l.findSome? g=some c
 | [],k,x,c,h,_,_=>by simp at h
 | y::l,0,x,c,h,_,hg=>by
  simp at h;subst h;simp[hg]
 | y::l,k+1,x,c,h,hi,hg=>by
  have h0:=hi y (by simp)
  simp only[List.findSome?_cons,h0]
  exact fs_at (by simpa using h) (fun z hz=>hi z (by simp[hz])) hg
theorem chk_err{l:List Ent}{rch:Int→Int→List Int}{k m:Nat}{e:Ent}{x:Lnk}{c:Int}(he:l[k]? =some e)(hi: ∀y∈l.take k,errE l y=none)(hx:e.links[m]? =some x)(hj: ∀y∈e.links.take m,errL l e y=none)
  (h:errL l e x=some c):chkF l rch=c:=by
 rw[chkF,fs_at he hi (fs_at hx hj h)]
theorem rCheck_D(l:List Ent)(hl:MidE l)(hd:Distinct l):DCalls Tryz.prog 68 [dv (.sl 8 (l.map Ent.enc))] (dv (li (chkF l (reachR l)))):=by
 have hmax:maxLen=9223372036854775807:=rfl
 have hl1:=hl.1
 refine kd (N:=91) (rs:= [.tmp 2]) Tryz.func68 ?_
 (repeat(first|apply kA|apply kB|((first|refine kc (N:=91) ?_|refine kj (N:=91) kq30 ?_|apply kD|apply kE);simp +decide only[go_sem])))
 refine dw_rngI l (fun k=>kn 91 [(0,dv (.sl 8 (l.map Ent.enc))),(3,dv (li k))] noMem) (fun k=>∀e∈l.take k,errE l e=none) (by omega) (kL rfl (by simp +decide only[go_sem]) (by simp[noMem])) (by simp) ?_ ?_
 ·intro k e he hk hm htk hlt hw hi
  have hel:=hl.2 e hm
  (repeat'(first|apply kA|apply kB|((first|refine kc (N:=91) ?_|refine kj (N:=91) kq30 ?_|apply kD|apply kE);simp +decide only[go_sem,hlt,hw,he,Ent.enc])|(apply kG;(simp +decide only[go_sem,hlt,hw,he,Ent.enc];rfl);all_goals(intro hcnd;try exact kz hcnd))|((first|apply kH|apply kI)<;>(intro hcnd;simp +decide only[go_sem,hcnd,hlt,hw,he,Ent.enc]))))
  refine dw_rngI e.links (fun m=>kn 91 [(0,dv (.sl 8 (l.map Ent.enc))),(3,dv (li k)),(4,dv (li m))] noMem) (fun m=>∀x∈e.links.take m,errL l e x=none) (by omega) (kL rfl (by simp +decide only[go_sem]) (by simp[noMem])) (by simp) ?_ ?_
  ·intro m x hx hmk hmm htm hlt2 hw2 hj
   have hI:=rInverse_D x.kind
   have hG:=rFind_D l x.tgt (by omega)
   cases hm0:decide (inv x.kind<0)
   ·cases hf:l.find? (fun y=>y.id==x.tgt)with
    | none=>
     have hg:getE l x.tgt=(noEnt,false):=by simp[getE,hf]
     rw[idxF_no (find_nex hf)]at hG
     (repeat'(first|apply kA|apply kB|((first|refine kc (N:=91) ?_|refine kj (N:=91) kq30 ?_|apply kD|apply kE|refine kx hI ?_|refine kx hG ?_|apply kF);simp +decide only[go_sem,hlt2,hw2,hx,hm0,he,Lnk.enc,Ent.enc])|(apply kG;(simp +decide only[go_sem,hlt2,hw2,hx,hm0,he,Lnk.enc,Ent.enc];rfl);all_goals(intro hcnd;try exact kz hcnd))|((first|apply kH|apply kI)<;>(intro hcnd;simp +decide only[go_sem,hcnd,hlt2,hw2,hx,hm0,he,Lnk.enc,Ent.enc]))))
     exact(chk_err he hi hx hj (by rw[errL,if_neg (by simpa using hm0),if_pos (by rw[hg])])).symm▸rfl
    | some A=>
     have hg:getE l x.tgt=(A,true):=by simp[getE,hf]
     obtain⟨i,hA,hii,hiq⟩:=find_ex hf
     rw[idxF_at hA hii hiq]at hG
     have hin:decide ((i:Int)<0)=false:=by simp
     have hH:=rHas_D A ⟨inv x.kind,e.id⟩ (by have:=hl.2 A (List.mem_of_getElem? hA);omega)
     simp only[Ent.row,Lnk.row]at hH
     cases hh:hasL A ⟨inv x.kind,e.id⟩
     ·rw[hh]at hH
      (repeat'(first|apply kA|apply kB|((first|refine kc (N:=91) ?_|refine kj (N:=91) kq30 ?_|apply kD|apply kE|refine kx hI ?_|refine kx hG ?_|refine kx hH ?_|apply kF);simp +decide only[go_sem,hlt2,hw2,hx,hm0,hin,he,hA,Lnk.enc,Ent.enc])|(apply kG;(simp +decide only[go_sem,hlt2,hw2,hx,hm0,hin,he,hA,Lnk.enc,Ent.enc];rfl);all_goals(intro hcnd;try exact kz hcnd))|((first|apply kH|apply kI)<;>(intro hcnd;simp +decide only[go_sem,hcnd,hlt2,hw2,hx,hm0,hin,he,hA,Lnk.enc,Ent.enc]))))
      exact(chk_err he hi hx hj (by rw[errL,if_neg (by simpa using hm0),if_neg (by simp[hg]),if_pos (by rw[hg];exact hh)])).symm▸rfl
     ·rw[hh]at hH
      (repeat'(first|apply kA|apply kB|((first|refine kc (N:=91) ?_|refine kj (N:=91) kq30 ?_|apply kD|apply kE|refine kx hI ?_|refine kx hG ?_|refine kx hH ?_|apply kF);simp +decide only[go_sem,hlt2,hw2,hx,hm0,hin,he,hA,Lnk.enc,Ent.enc])|(apply kG;(simp +decide only[go_sem,hlt2,hw2,hx,hm0,hin,he,hA,Lnk.enc,Ent.enc];rfl);all_goals(intro hcnd;try exact kz hcnd))|((first|apply kH|apply kI)<;>(intro hcnd;simp +decide only[go_sem,hcnd,hlt2,hw2,hx,hm0,hin,he,hA,Lnk.enc,Ent.enc]))))
      refine⟨forall_snoc htm hj (by rw[errL,if_neg (by simpa using hm0),if_neg (by simp[hg]),if_neg (by rw[hg];simp[hh])]),kL rfl (by simp +decide only[go_sem]) (by simp[noMem])⟩
   ·(repeat'(first|apply kA|apply kB|((first|refine kc (N:=91) ?_|refine kj (N:=91) kq30 ?_|apply kD|apply kE|refine kx hI ?_|refine kx hG ?_|apply kF);simp +decide only[go_sem,hlt2,hw2,hx,hm0,he,Lnk.enc,Ent.enc])|(apply kG;(simp +decide only[go_sem,hlt2,hw2,hx,hm0,he,Lnk.enc,Ent.enc];rfl);all_goals(intro hcnd;try exact kz hcnd))|((first|apply kH|apply kI)<;>(intro hcnd;simp +decide only[go_sem,hcnd,hlt2,hw2,hx,hm0,he,Lnk.enc,Ent.enc]))))
    exact(chk_err he hi hx hj (by rw[errL,if_pos (by simpa using hm0)])).symm▸rfl
  ·intro hlt2 hj
   rw[List.take_length]at hj
   (repeat'(first|apply kA|apply kB|((first|refine kc (N:=91) ?_|refine kj (N:=91) kq30 ?_|apply kD|apply kE);simp +decide only[go_sem,hlt2,hw,he,Ent.enc])|(apply kG;(simp +decide only[go_sem,hlt2,hw,he,Ent.enc];rfl);all_goals(intro hcnd;try exact kz hcnd))|((first|apply kH|apply kI)<;>(intro hcnd;simp +decide only[go_sem,hcnd,hlt2,hw,he,Ent.enc]))))
   refine⟨forall_snoc htk hi (List.findSome?_eq_none_iff.2 hj),kL rfl (by simp +decide only[go_sem]) (by simp[noMem])⟩
 ·intro hlt hi
  rw[List.take_length]at hi
  have hn:l.findSome? (errE l)=none:=List.findSome?_eq_none_iff.2 hi
  have hc: ∀b,l.any (ring (reachR l))=b→chkF l (reachR l)=if b then 17 else 0:=fun b hb=>by rw[chkF,hn];simp only[hb]
  (repeat'(first|apply kA|apply kB|((first|refine kc (N:=91) ?_|refine kj (N:=91) kq30 ?_|apply kD|apply kE);simp +decide only[go_sem,hlt])|(apply kG;(simp +decide only[go_sem,hlt];rfl);all_goals(intro hcnd;try exact kz hcnd))|((first|apply kH|apply kI)<;>(intro hcnd;simp +decide only[go_sem,hcnd,hlt]))))
  refine dw_rngI l (fun k=>kn 91 [(0,dv (.sl 8 (l.map Ent.enc))),(7,dv (li k))] noMem) (fun k=>∀e∈l.take k,ring (reachR l) e=false) (by omega) (kL rfl (by simp +decide only[go_sem]) (by simp[noMem])) (by simp) ?_ ?_
  ·intro k e he hk hm htk hlt hw hr
   have hR2:=rReach_D l e.id 2 hl.small hd
   have hR4:=rReach_D l e.id 4 hl.small hd
   have hN2:=rIn_D (reachR l e.id 2) e.id (by have:=reachR_len l e.id 2;omega)
   have hN4:=rIn_D (reachR l e.id 4) e.id (by have:=reachR_len l e.id 4;omega)
   rw[any_r]at hN2 hN4
   cases h2:decide (e.id∈reachR l e.id 2)
   ·rw[h2]at hN2
    cases h4:decide (e.id∈reachR l e.id 4)
    ·rw[h4]at hN4
     (repeat'(first|apply kA|apply kB|((first|refine kc (N:=91) ?_|refine kj (N:=91) kq30 ?_|apply kD|apply kE|refine kx hR2 ?_|refine kx hR4 ?_|refine kx hN2 ?_|refine kx hN4 ?_|apply kF);simp +decide only[go_sem,hlt,hw,he,Ent.enc])|(apply kG;(simp +decide only[go_sem,hlt,hw,he,Ent.enc];rfl);all_goals(intro hcnd;try exact kz hcnd))|((first|apply kH|apply kI)<;>(intro hcnd;simp +decide only[go_sem,hcnd,hlt,hw,he,Ent.enc]))))
     exact⟨forall_snoc htk hr (by rw[ring,h2,h4];rfl),kL rfl (by simp +decide only[go_sem]) (by simp[noMem])⟩
    ·rw[h4]at hN4
     (repeat'(first|apply kA|apply kB|((first|refine kc (N:=91) ?_|refine kj (N:=91) kq30 ?_|apply kD|apply kE|refine kx hR2 ?_|refine kx hR4 ?_|refine kx hN2 ?_|refine kx hN4 ?_|apply kF);simp +decide only[go_sem,hlt,hw,he,Ent.enc])|(apply kG;(simp +decide only[go_sem,hlt,hw,he,Ent.enc];rfl);all_goals(intro hcnd;try exact kz hcnd))|((first|apply kH|apply kI)<;>(intro hcnd;simp +decide only[go_sem,hcnd,hlt,hw,he,Ent.enc]))))
     rw[hc true (List.any_eq_true.2 ⟨e,hm,by rw[ring,h2,h4];rfl⟩)];rfl
   ·rw[h2]at hN2
    (repeat'(first|apply kA|apply kB|((first|refine kc (N:=91) ?_|refine kj (N:=91) kq30 ?_|apply kD|apply kE|refine kx hR2 ?_|refine kx hR4 ?_|refine kx hN2 ?_|refine kx hN4 ?_|apply kF);simp +decide only[go_sem,hlt,hw,he,Ent.enc])|(apply kG;(simp +decide only[go_sem,hlt,hw,he,Ent.enc];rfl);all_goals(intro hcnd;try exact kz hcnd))|((first|apply kH|apply kI)<;>(intro hcnd;simp +decide only[go_sem,hcnd,hlt,hw,he,Ent.enc]))))
    rw[hc true (List.any_eq_true.2 ⟨e,hm,by rw[ring,h2];rfl⟩)];rfl
  ·intro hlt hr
   rw[List.take_length]at hr
   (repeat'(first|apply kA|apply kB|((first|refine kc (N:=91) ?_|refine kj (N:=91) kq30 ?_|apply kD|apply kE|apply kF);simp +decide only[go_sem,hlt])|(apply kG;(simp +decide only[go_sem,hlt];rfl);all_goals(intro hcnd;try exact kz hcnd))|((first|apply kH|apply kI)<;>(intro hcnd;simp +decide only[go_sem,hcnd,hlt]))))
   rw[hc false (by simpa using hr)];rfl
end Go.Proofs.YtehdkccjaeckhaaGreatDoor.W
namespace Go.Proofs.YtehdkccjaeckhaaGreatDoor
open Go.Dl
open S (usort)
attribute [local irreducible] DW DCalls ECalls wk IW
structure MidL(g:Lng):Prop where
 nsz: ∀p∈g.d.inv,p.name.size≤1048576
 ilen:g.d.inv.length≤1048576
 nm:g.nm.size≤1048576
 gsz: ∀u∈g.d.units,u.graph.size≤1048576
 lsum: ∀l∈g.d.letters,(l.map fun s=>s.size+1).sum≤1048576
 fin:g.fin.length≤1048576
 llen:g.d.lex.length≤1048576
 mid: ∀e∈g.d.lex,MidE e
theorem sum_ge'{α:Type}(f:α→Nat): ∀{l:List α} {a:α},a∈l→f a≤(l.map f).sum
 | b::l,a,h=>by
  rcases List.mem_cons.1 h with rfl|h
  ·simp
  ·have:=sum_ge' f h;simp;omega
theorem sum_len'{α:Type}(f:α→Nat){c:Nat}: ∀{l:List α},(∀a∈l,c≤f a)→l.length*c≤(l.map f).sum
 | [],_=>by simp
 | b::l,h=>by
  have h1:=sum_len' f (l:=l) (c:=c) fun a ha=>h a (by simp[ha])
  have h2:=h b (by simp)
  rw[List.length_cons,Nat.succ_mul,List.map_cons,List.sum_cons];omega
theorem MidL.llen2{g:Lng}(h:MidL g): ∀l∈g.d.letters,l.length≤1048576:=fun l hl=>by
 have:=sum_len' (fun s:ByteArray=>s.size+1) (c:=1) (l:=l) (fun a _=>by omega)
 have:=h.lsum l hl
 omega
theorem MidL.lsz{g:Lng}(h:MidL g): ∀l∈g.d.letters,∀s∈l,s.size≤1048576:=fun l hl s hs=>by
 have:=sum_ge' (fun s:ByteArray=>s.size+1) hs
 have:=h.lsum l hl
 omega
def chkL(g:Lng):Int:=
 if checkI g.d.inv≠0 then checkI g.d.inv else if orthE g.d.inv g.nm g.d.units g.d.letters≠0 then orthE g.d.inv g.nm g.d.units g.d.letters
 else if rulsE g.d.inv g.rules≠0 then rulsE g.d.inv g.rules else if netE g.states g.steps g.fin≠0 then netE g.states g.steps g.fin
 else if lexE g.d.inv g.d.lex≠0 then lexE g.d.inv g.d.lex else if W.chkF g.d.lex (W.reachR g.d.lex)≠0 then W.chkF g.d.lex (W.reachR g.d.lex)else mainsE g.d.lex
theorem check_few{g:List Phon}{e:Ent}(h:checkE g e=0):e.links.length≤12∧e.senses.length≤5:=by
 unfold checkE at h
 split at h
 ·omega
 ·split at h
  ·rename_i h2;exact absurd h h2
  ·split at h
   ·rename_i h2;exact absurd h h2
   ·split at h
    ·rename_i h2;exact absurd h h2
    ·rename_i h3 h4
     constructor
     ·unfold linksE at h4
      by_cases hl:12<e.links.length
      ·rw[if_pos hl]at h4;exact absurd (by decide) h4
      ·omega
     ·have h3':sensesE e=0:=by simpa using h3
      unfold sensesE at h3'
      by_cases hl:5<e.senses.length
      ·split at h3'
       ·omega
       ·split at h3'
        ·omega
        ·omega
      ·omega
theorem distinct_up{l:List Ent}(h:UpE l):W.Distinct l:=by
 unfold W.Distinct
 rw[List.pairwise_map]
 exact h.imp fun {a b} hab=>by omega
theorem rCheck29_D(g:Lng)(hm:MidL g)(hr: ∀r∈g.rules,r.src.length≤999999)(hf:g.d.lex.length≤5):DCalls Tryz.prog 35 [.agg (lngRow g.x g.d)] (dv (li (chkL g))):=by
 have hmax:maxLen=9223372036854775807:=rfl
 have hI:=rCheckI_D g.d.inv hm.nsz
 have hO:=rCheckO_D g.d.inv g.nm g.d.units g.d.letters hm.nm hm.gsz hm.llen2 hm.lsz
 have hR:=rRules_D g hr
 have hN:=rNet_D g.states g.steps g.fin hm.fin
 have hL:=rCheckL_D g.d.inv g.d.lex hm.mid
 have hV:=rVar_D g.d.lex (by omega)
 simp only[invRow,ortRow,lngRow,netRow,Lng.x]at hI hO hR hN hL hV
 unfold chkL
 generalize e1:checkI g.d.inv=c1 at hI ⊢
 generalize e2:orthE g.d.inv g.nm g.d.units g.d.letters=c2 at hO ⊢
 generalize e3:rulsE g.d.inv g.rules=c3 at hR ⊢
 generalize e4:netE g.states g.steps g.fin=c4 at hN ⊢
 refine kd (N:=46) (rs:= [.tmp 2]) Tryz.func35 ?_
 cases t1:c1 !=0
 rotate_left
 ·rw[if_pos (by simpa using t1)]
  (repeat'(first|apply kA|apply kB|((first|refine kc (N:=46) ?_|apply kD|apply kE|refine kx hI ?_|apply kF);simp +decide only[go_sem,lngRow,Lng.x,t1])|(apply kG;(simp +decide only[go_sem,lngRow,Lng.x,t1];rfl);all_goals(intro hcnd;try exact kz hcnd))))
 rw[if_neg (by simpa using t1)]
 cases t2:c2 !=0
 rotate_left
 ·rw[if_pos (by simpa using t2)]
  (repeat'(first|apply kA|apply kB|((first|refine kc (N:=46) ?_|apply kD|apply kE|refine kx hI ?_|refine kx hO ?_|apply kF);simp +decide only[go_sem,lngRow,Lng.x,t1,t2])|(apply kG;(simp +decide only[go_sem,lngRow,Lng.x,t1,t2];rfl);all_goals(intro hcnd;try exact kz hcnd))))
 rw[if_neg (by simpa using t2)]
 cases t3:c3 !=0
 rotate_left
 ·rw[if_pos (by simpa using t3)]
  (repeat'(first|apply kA|apply kB|((first|refine kc (N:=46) ?_|apply kD|apply kE|refine kx hI ?_|refine kx hO ?_|refine kx hR ?_|apply kF);simp +decide only[go_sem,lngRow,Lng.x,t1,t2,t3])|(apply kG;(simp +decide only[go_sem,lngRow,Lng.x,t1,t2,t3];rfl);all_goals(intro hcnd;try exact kz hcnd))))
 rw[if_neg (by simpa using t3)]
 cases t4:c4 !=0
 rotate_left
 ·rw[if_pos (by simpa using t4)]
  (repeat'(first|apply kA|apply kB|((first|refine kc (N:=46) ?_|apply kD|apply kE|refine kx hI ?_|refine kx hO ?_|refine kx hR ?_|refine kx hN ?_|apply kF);simp +decide only[go_sem,lngRow,Lng.x,t1,t2,t3,t4])|(apply kG;(simp +decide only[go_sem,lngRow,Lng.x,t1,t2,t3,t4];rfl);all_goals(intro hcnd;try exact kz hcnd))))
 rw[if_neg (by simpa using t4)]
 cases t5:lexE g.d.inv g.d.lex !=0
 rotate_left
 ·rw[if_pos (by simpa using t5)]
  (repeat'(first|apply kA|apply kB|((first|refine kc (N:=46) ?_|apply kD|apply kE|refine kx hI ?_|refine kx hO ?_|refine kx hR ?_|refine kx hN ?_|refine kx hL ?_|apply kF);simp +decide only[go_sem,lngRow,Lng.x,t1,t2,t3,t4,t5])|(apply kG;(simp +decide only[go_sem,lngRow,Lng.x,t1,t2,t3,t4,t5];rfl);all_goals(intro hcnd;try exact kz hcnd))))
 have hright:=(lexE_iff g.d.inv g.d.lex).1 (by simpa using t5)
 rw[if_neg (by simpa using t5)]
 have hC:=W.rCheck_D g.d.lex ⟨by omega,fun e he=>by have:=(check_few (hright.each e he)).1;omega⟩ (distinct_up hright.up)
 generalize e6:W.chkF g.d.lex (W.reachR g.d.lex)=c6 at hC ⊢
 cases t6:c6 !=0
 rotate_left
 ·rw[if_pos (by simpa using t6)]
  (repeat'(first|apply kA|apply kB|((first|refine kc (N:=46) ?_|apply kD|apply kE|refine kx hI ?_|refine kx hO ?_|refine kx hR ?_|refine kx hN ?_|refine kx hL ?_|refine kx hC ?_|apply kF);simp +decide only[go_sem,lngRow,Lng.x,t1,t2,t3,t4,t5,t6])|(apply kG;(simp +decide only[go_sem,lngRow,Lng.x,t1,t2,t3,t4,t5,t6];rfl);all_goals(intro hcnd;try exact kz hcnd))))
 rw[if_neg (by simpa using t6)]
 (repeat'(first|apply kA|apply kB|((first|refine kc (N:=46) ?_|apply kD|apply kE|refine kx hI ?_|refine kx hO ?_|refine kx hR ?_|refine kx hN ?_|refine kx hL ?_|refine kx hC ?_|refine kx hV ?_|apply kF);simp +decide only[go_sem,lngRow,Lng.x,t1,t2,t3,t4,t5,t6])|(apply kG;(simp +decide only[go_sem,lngRow,Lng.x,t1,t2,t3,t4,t5,t6];rfl);all_goals(intro hcnd;try exact kz hcnd))))
theorem big_form{e:Ent}(h:decide ((3:Int)<(e.form.length:Int))=true):entBig e=true:=by
 unfold entBig;simp at h ⊢;left;omega
theorem rSmall_D(l:List Ent)(hl:l.length≤1048576):DCalls Tryz.prog 34 [dv (.sl 8 (l.map Ent.enc))] (dv (lb (smallB l))):=by
 have hmax:maxLen=9223372036854775807:=rfl
 unfold smallB
 refine kd (N:=50) (rs:= [.tmp 2]) Tryz.func34 ?_
 cases t0:decide ((5:Int)<(l.length:Int))
 rotate_left
 ·have:decide (5<l.length)=true:=by simp at t0 ⊢;omega
  (repeat'(first|apply kA|apply kB|((first|refine kc (N:=50) ?_|apply kD|apply kE|apply kF);simp +decide only[go_sem,t0])|(apply kG;(simp +decide only[go_sem,t0];rfl);all_goals(intro hcnd;try exact kz hcnd))|((first|apply kH|apply kI)<;>(intro hcnd;simp +decide only[go_sem,hcnd,t0]))))
  simp[this]
 have h0:decide (5<l.length)=false:=by simp at t0 ⊢;omega
 rw[h0]
 (repeat'(first|apply kA|apply kB|((first|refine kc (N:=50) ?_|apply kD|apply kE);simp +decide only[go_sem,t0])|(apply kG;(simp +decide only[go_sem,t0];rfl);all_goals(intro hcnd;try exact kz hcnd))|((first|apply kH|apply kI)<;>(intro hcnd;simp +decide only[go_sem,hcnd,t0]))))
 refine dw_rngI l (fun k=>kn 50 [(0,dv (.sl 8 (l.map Ent.enc))),(3,dv (li k))] noMem) (fun k=>∀e∈l.take k,(!entBig e)=true) (by omega) (kL rfl (by simp +decide only[go_sem]) (by simp[noMem])) (by simp) ?_ ?_
 ·intro k e he hk hm htk hlt hw hi
  have hbad:entBig e=true→(l.all fun e=> !entBig e)=false:=fun h=>List.all_eq_false.2 ⟨e,hm,by simp[h]⟩
  cases t1:decide ((3:Int)<(e.form.length:Int))
  rotate_left
  ·rw[hbad (big_form t1)]
   (repeat'(first|apply kA|apply kB|((first|refine kc (N:=50) ?_|apply kD|apply kE|apply kF);simp +decide only[go_sem,hlt,hw,he,t1,Ent.enc])|(apply kG;(simp +decide only[go_sem,hlt,hw,he,t1,Ent.enc];rfl);all_goals(intro hcnd;try exact kz hcnd))|((first|apply kH|apply kI)<;>(intro hcnd;simp +decide only[go_sem,hcnd,hlt,hw,he,t1,Ent.enc]))))
  cases t2:decide ((1:Int)<(e.alts.length:Int))
  rotate_left
  ·rw[hbad (by unfold entBig;simp at t2 ⊢;right;left;omega)]
   (repeat'(first|apply kA|apply kB|((first|refine kc (N:=50) ?_|apply kD|apply kE|apply kF);simp +decide only[go_sem,hlt,hw,he,t1,t2,Ent.enc])|(apply kG;(simp +decide only[go_sem,hlt,hw,he,t1,t2,Ent.enc];rfl);all_goals(intro hcnd;try exact kz hcnd))|((first|apply kH|apply kI)<;>(intro hcnd;simp +decide only[go_sem,hcnd,hlt,hw,he,t1,t2,Ent.enc]))))
  (repeat'(first|apply kA|apply kB|((first|refine kc (N:=50) ?_|apply kD|apply kE);simp +decide only[go_sem,hlt,hw,he,t1,t2,Ent.enc])|(apply kG;(simp +decide only[go_sem,hlt,hw,he,t1,t2,Ent.enc];rfl);all_goals(intro hcnd;try exact kz hcnd))|((first|apply kH|apply kI)<;>(intro hcnd;simp +decide only[go_sem,hcnd,hlt,hw,he,t1,t2,Ent.enc]))))
  refine dw_rngI e.alts (fun j=>kn 50 [(0,dv (.sl 8 (l.map Ent.enc))),(3,dv (li k)),(4,dv (li j))] noMem) (fun j=>∀w∈e.alts.take j,decide (3<w.length)=false) (by simp at t2;omega) (kL rfl (by simp +decide only[go_sem]) (by simp[noMem])) (by simp) ?_ ?_
  ·intro j w hy hj hwm htj hlt2 hw2 hi2
   have hat:=alt_at hy
   cases t3:decide ((3:Int)<(w.length:Int))
   ·(repeat'(first|apply kA|apply kB|((first|refine kc (N:=50) ?_|apply kD|apply kE);simp +decide only[go_sem,hlt2,hw2,he,hat,t3,Ent.enc])|(apply kG;(simp +decide only[go_sem,hlt2,hw2,he,hat,t3,Ent.enc];rfl);all_goals(intro hcnd;try exact kz hcnd))|((first|apply kH|apply kI)<;>(intro hcnd;simp +decide only[go_sem,hcnd,hlt2,hw2,he,hat,t3,Ent.enc]))))
    exact⟨forall_snoc htj hi2 (by simp at t3 ⊢;omega),kL rfl (by simp +decide only[go_sem]) (by simp[noMem])⟩
   ·have hx:(e.alts.any fun w=>decide (3<w.length))=true:=List.any_eq_true.2 ⟨w,hwm,by simp at t3 ⊢;omega⟩
    rw[hbad (by unfold entBig;rw[hx];simp)]
    (repeat'(first|apply kA|apply kB|((first|refine kc (N:=50) ?_|apply kD|apply kE|apply kF);simp +decide only[go_sem,hlt2,hw2,he,hat,t3,Ent.enc])|(apply kG;(simp +decide only[go_sem,hlt2,hw2,he,hat,t3,Ent.enc];rfl);all_goals(intro hcnd;try exact kz hcnd))|((first|apply kH|apply kI)<;>(intro hcnd;simp +decide only[go_sem,hcnd,hlt2,hw2,he,hat,t3,Ent.enc]))))
  ·intro hlt2 hi2
   rw[List.take_length]at hi2
   have hx:(e.alts.any fun w=>decide (3<w.length))=false:=by simpa using hi2
   (repeat'(first|apply kA|apply kB|((first|refine kc (N:=50) ?_|apply kD|apply kE);simp +decide only[go_sem,hlt2,hw,he,Ent.enc])|(apply kG;(simp +decide only[go_sem,hlt2,hw,he,Ent.enc];rfl);all_goals(intro hcnd;try exact kz hcnd))|((first|apply kH|apply kI)<;>(intro hcnd;simp +decide only[go_sem,hcnd,hlt2,hw,he,Ent.enc]))))
   refine⟨forall_snoc htk hi ?_,kL rfl (by simp +decide only[go_sem]) (by simp[noMem])⟩
   unfold entBig
   rw[hx]
   simp at t1 t2 ⊢
   omega
 ·intro hlt hi
  rw[List.take_length]at hi
  have:(l.all fun e=> !entBig e)=true:=by rw[List.all_eq_true];exact hi
  rw[this]
  (repeat'(first|apply kA|apply kB|((first|refine kc (N:=50) ?_|apply kD|apply kE|apply kF);simp +decide only[go_sem,hlt])|(apply kG;(simp +decide only[go_sem,hlt];rfl);all_goals(intro hcnd;try exact kz hcnd))|((first|apply kH|apply kI)<;>(intro hcnd;simp +decide only[go_sem,hcnd,hlt]))))
def fewL(g:Lng):Bool:= !decide (8<g.d.inv.length)&&(!decide (10<g.d.units.length)&&(!decide (2<g.rules.length)&&(!decide (3<g.states)&&(!decide (6<g.steps.length)&&(!decide (3<g.fin.length)&&smallB g.d.lex)))))
def lightB(g:Lng):Bool:=fewL g&&((g.rules.all fun r=> !decide (8<r.src.length))&&(chkL g==0))
theorem d3{n:Nat}{c:Nat}:decide ((c:Int)<(n:Int))=decide (c<n):=by rw[Bool.eq_iff_iff];simp
theorem rLight_D(g:Lng)(hm:MidL g):DCalls Tryz.prog 12 [.agg (lngRow g.x g.d)] (dv (lb (lightB g))):=by
 have hmax:maxLen=9223372036854775807:=rfl
 have hS:=rSmall_D g.d.lex hm.llen
 unfold lightB fewL
 refine kd (N:=66) (rs:= [.tmp 2]) Tryz.func12 ?_
 cases t1:decide ((8:Int)<(g.d.inv.length:Int))
 rotate_left
 ·rw[show decide (8<g.d.inv.length)=true from d3.symm.trans t1]
  (repeat'(first|apply kA|apply kB|((first|refine kc (N:=66) ?_|apply kD|apply kE|apply kF);simp +decide only[go_sem,lngRow,Lng.x,t1])|(apply kG;(simp +decide only[go_sem,lngRow,Lng.x,t1];rfl);all_goals(intro hcnd;try exact kz hcnd))|((first|apply kH|apply kI)<;>(intro hcnd;simp +decide only[go_sem,hcnd,lngRow,Lng.x,t1]))))
  try rfl
 rw[show decide (8<g.d.inv.length)=false from d3.symm.trans t1]
 cases t2:decide ((10:Int)<(g.d.units.length:Int))
 rotate_left
 ·rw[show decide (10<g.d.units.length)=true from d3.symm.trans t2]
  (repeat'(first|apply kA|apply kB|((first|refine kc (N:=66) ?_|apply kD|apply kE|apply kF);simp +decide only[go_sem,lngRow,Lng.x,t1,t2])|(apply kG;(simp +decide only[go_sem,lngRow,Lng.x,t1,t2];rfl);all_goals(intro hcnd;try exact kz hcnd))|((first|apply kH|apply kI)<;>(intro hcnd;simp +decide only[go_sem,hcnd,lngRow,Lng.x,t1,t2]))))
  try rfl
 rw[show decide (10<g.d.units.length)=false from d3.symm.trans t2]
 cases t3:decide ((2:Int)<(g.rules.length:Int))
 rotate_left
 ·rw[show decide (2<g.rules.length)=true from d3.symm.trans t3]
  (repeat'(first|apply kA|apply kB|((first|refine kc (N:=66) ?_|apply kD|apply kE|apply kF);simp +decide only[go_sem,lngRow,Lng.x,t1,t2,t3])|(apply kG;(simp +decide only[go_sem,lngRow,Lng.x,t1,t2,t3];rfl);all_goals(intro hcnd;try exact kz hcnd))|((first|apply kH|apply kI)<;>(intro hcnd;simp +decide only[go_sem,hcnd,lngRow,Lng.x,t1,t2,t3]))))
  try rfl
 rw[show decide (2<g.rules.length)=false from d3.symm.trans t3]
 cases t4:decide ((3:Int)<g.states)
 rotate_left
 ·(repeat'(first|apply kA|apply kB|((first|refine kc (N:=66) ?_|apply kD|apply kE|apply kF);simp +decide only[go_sem,lngRow,Lng.x,t1,t2,t3,t4])|(apply kG;(simp +decide only[go_sem,lngRow,Lng.x,t1,t2,t3,t4];rfl);all_goals(intro hcnd;try exact kz hcnd))|((first|apply kH|apply kI)<;>(intro hcnd;simp +decide only[go_sem,hcnd,lngRow,Lng.x,t1,t2,t3,t4]))))
  try rfl
 cases t5:decide ((6:Int)<(g.steps.length:Int))
 rotate_left
 ·rw[show decide (6<g.steps.length)=true from d3.symm.trans t5]
  (repeat'(first|apply kA|apply kB|((first|refine kc (N:=66) ?_|apply kD|apply kE|apply kF);simp +decide only[go_sem,lngRow,Lng.x,t1,t2,t3,t4,t5])|(apply kG;(simp +decide only[go_sem,lngRow,Lng.x,t1,t2,t3,t4,t5];rfl);all_goals(intro hcnd;try exact kz hcnd))|((first|apply kH|apply kI)<;>(intro hcnd;simp +decide only[go_sem,hcnd,lngRow,Lng.x,t1,t2,t3,t4,t5]))))
  try rfl
 rw[show decide (6<g.steps.length)=false from d3.symm.trans t5]
 cases t6:decide ((3:Int)<(g.fin.length:Int))
 rotate_left
 ·rw[show decide (3<g.fin.length)=true from d3.symm.trans t6]
  (repeat'(first|apply kA|apply kB|((first|refine kc (N:=66) ?_|apply kD|apply kE|apply kF);simp +decide only[go_sem,lngRow,Lng.x,t1,t2,t3,t4,t5,t6])|(apply kG;(simp +decide only[go_sem,lngRow,Lng.x,t1,t2,t3,t4,t5,t6];rfl);all_goals(intro hcnd;try exact kz hcnd))|((first|apply kH|apply kI)<;>(intro hcnd;simp +decide only[go_sem,hcnd,lngRow,Lng.x,t1,t2,t3,t4,t5,t6]))))
  try rfl
 rw[show decide (3<g.fin.length)=false from d3.symm.trans t6]
 cases t7:smallB g.d.lex
 ·rw[t7]at hS
  (repeat'(first|apply kA|apply kB|((first|refine kc (N:=66) ?_|apply kD|apply kE|refine kx hS ?_|apply kF);simp +decide only[go_sem,lngRow,Lng.x,t1,t2,t3,t4,t5,t6])|(apply kG;(simp +decide only[go_sem,lngRow,Lng.x,t1,t2,t3,t4,t5,t6];rfl);all_goals(intro hcnd;try exact kz hcnd))|((first|apply kH|apply kI)<;>(intro hcnd;simp +decide only[go_sem,hcnd,lngRow,Lng.x,t1,t2,t3,t4,t5,t6]))))
  try rfl
 rw[t7]at hS
 have h5:g.d.lex.length≤5:=by
  unfold smallB at t7
  simp only[Bool.and_eq_true,Bool.not_eq_true',decide_eq_false_iff_not]at t7
  omega
 (repeat'(first|apply kA|apply kB|((first|refine kc (N:=66) ?_|apply kD|apply kE|refine kx hS ?_);simp +decide only[go_sem,lngRow,Lng.x,t1,t2,t3,t4,t5,t6])|(apply kG;(simp +decide only[go_sem,lngRow,Lng.x,t1,t2,t3,t4,t5,t6];rfl);all_goals(intro hcnd;try exact kz hcnd))|((first|apply kH|apply kI)<;>(intro hcnd;simp +decide only[go_sem,hcnd,lngRow,Lng.x,t1,t2,t3,t4,t5,t6]))))
 refine dw_rngI g.rules (fun k=>kn 66 [(1,.one (.bx 1 9 0 0)),(3,dv (li k))] (ml [(1,[lngRow g.x g.d])])) (fun k=>∀r∈g.rules.take k,decide (8<r.src.length)=false) (by simp at t3;omega) (kM rfl (by simp +decide only[go_sem,lngRow,Lng.x]) (by simp +decide only[go_sem,lngRow,Lng.x])) (by simp) ?_ ?_
 ·intro k r hr hk hrm htk hlt hw hi
  cases t8:decide ((8:Int)<(r.src.length:Int))
  ·(repeat'(first|apply kA|apply kB|((first|refine kc (N:=66) ?_|apply kD|apply kE);simp +decide only[go_sem,hlt,hw,hr,t8,Rul.enc,lngRow,Lng.x])|(apply kG;(simp +decide only[go_sem,hlt,hw,hr,t8,Rul.enc,lngRow,Lng.x];rfl);all_goals(intro hcnd;try exact kz hcnd))|((first|apply kH|apply kI)<;>(intro hcnd;simp +decide only[go_sem,hcnd,hlt,hw,hr,t8,Rul.enc,lngRow,Lng.x]))))
   exact⟨forall_snoc htk hi (d3.symm.trans t8),kM rfl (by simp +decide only[go_sem,lngRow,Lng.x]) (by simp +decide only[go_sem,lngRow,Lng.x])⟩
  ·rw[show (g.rules.all fun r=> !decide (8<r.src.length))=false from List.all_eq_false.2 ⟨r,hrm,by rw[show decide (8<r.src.length)=true from d3.symm.trans t8];decide⟩]
   (repeat'(first|apply kA|apply kB|((first|refine kc (N:=66) ?_|apply kD|apply kE|apply kF);simp +decide only[go_sem,hlt,hw,hr,t8,Rul.enc,lngRow,Lng.x])|(apply kG;(simp +decide only[go_sem,hlt,hw,hr,t8,Rul.enc,lngRow,Lng.x];rfl);all_goals(intro hcnd;try exact kz hcnd))|((first|apply kH|apply kI)<;>(intro hcnd;simp +decide only[go_sem,hcnd,hlt,hw,hr,t8,Rul.enc,lngRow,Lng.x]))))
   try rfl
 ·intro hlt hi
  rw[List.take_length]at hi
  rw[show (g.rules.all fun r=> !decide (8<r.src.length))=true from List.all_eq_true.2 fun r hr=>by rw[hi r hr];rfl]
  have hC:=rCheck29_D g hm (fun r hr=>by have:=hi r hr;simp at this;omega) h5
  simp only[lngRow,Lng.x]at hC
  (repeat'(first|apply kA|apply kB|((first|refine kc (N:=66) ?_|apply kD|apply kE|refine kx hC ?_|apply kF);simp +decide only[go_sem,hlt,lngRow,Lng.x])|(apply kG;(simp +decide only[go_sem,hlt,lngRow,Lng.x];rfl);all_goals(intro hcnd;try exact kz hcnd))|((first|apply kH|apply kI)<;>(intro hcnd;simp +decide only[go_sem,hcnd,hlt,lngRow,Lng.x]))))
  try rfl
theorem chkI_ok: ∀{l:List Phon} {seen:List ByteArray},chkI seen l=0→∀p∈l,labelB p.name=true
 | [],_,_,p,hp=>absurd hp (by simp)
 | a::l,seen,h,p,hp=>by
  simp only[chkI]at h
  by_cases h1:labelB a.name=false
  ·rw[if_pos h1]at h;exact absurd h (by decide)
  ·rw[if_neg h1]at h
   split at h
   ·exact absurd h (by decide)
   ·split at h
    ·exact absurd h (by decide)
    ·rcases List.mem_cons.1 hp with rfl|hp
     ·simpa using h1
     ·exact chkI_ok h p hp
theorem checkI_ok{g:List Phon}(h:checkI g=0):g.length≤60∧∀p∈g,labelB p.name=true:=by
 unfold checkI at h
 split at h
 ·exact absurd h (by decide)
 ·exact⟨by omega,chkI_ok h⟩
theorem small_ok{l:List Ent}(h:smallB l=true):l.length≤5∧∀e∈l,e.form.length≤3∧e.alts.length≤1∧∀w∈e.alts,w.length≤3:=by
 unfold smallB at h
 simp only[Bool.and_eq_true,Bool.not_eq_true',decide_eq_false_iff_not,List.all_eq_true]at h
 refine⟨by omega,fun e he=>?_⟩
 have:=h.2 e he
 unfold entBig at this
 simp only[Bool.or_eq_false_iff,decide_eq_false_iff_not,List.any_eq_false,decide_eq_true_eq]at this
 exact⟨by omega,by omega,fun w hw=>by have:=this.2.2 w hw;omega⟩
theorem light_ok{g:Lng}(hm:MidL g)(h:lightB g=true):OkD g.d:=by
 unfold lightB fewL at h
 simp only[Bool.and_eq_true,Bool.not_eq_true',decide_eq_false_iff_not,beq_iff_eq]at h
 obtain⟨⟨h1,h2,h3,h4,h5,h6,h7⟩,-,h8⟩:=h
 unfold chkL at h8
 have s1:checkI g.d.inv=0:=Classical.byContradiction fun hc=>by rw[if_pos hc]at h8;exact hc h8
 rw[if_neg (by simpa using s1)]at h8
 have s2:orthE g.d.inv g.nm g.d.units g.d.letters=0:=Classical.byContradiction fun hc=>by rw[if_pos hc]at h8;exact hc h8
 rw[if_neg (by simpa using s2)]at h8
 have s3:rulsE g.d.inv g.rules=0:=Classical.byContradiction fun hc=>by rw[if_pos hc]at h8;exact hc h8
 rw[if_neg (by simpa using s3)]at h8
 have s4:netE g.states g.steps g.fin=0:=Classical.byContradiction fun hc=>by rw[if_pos hc]at h8;exact hc h8
 rw[if_neg (by simpa using s4)]at h8
 have s5:lexE g.d.inv g.d.lex=0:=Classical.byContradiction fun hc=>by rw[if_pos hc]at h8;exact hc h8
 obtain⟨a1,a2⟩:=checkI_ok s1
 obtain⟨b1,b2,b3,b4,b5⟩:=orthE_ok s2
 obtain⟨c1,c2⟩:=small_ok h7
 have hR:=(lexE_iff _ _).1 s5
 refine { toRightL:=hR,names:=?_,units:=?_,nsz:=?_,ilen:=by omega,ulen:=by omega,gsz:=?_,usg:=?_,llen:=by omega,lne:=b4,lll:=?_,lsz:=hm.lsz,few:=c1,frm:=?_,alt:=?_,nalt:=?_,mid:=hm.mid }
 ·exact fun p hp=>(labelB_size (a2 p hp)).1
 ·exact⟨fun u hu e=>by have:=(b3 u hu).2.1;rw[e]at this;simp at this,fun u hu=>(labB_size (b3 u hu).1).1⟩
 ·exact fun p hp=>(labelB_size (a2 p hp)).2
 ·exact fun u hu=>(labB_size (b3 u hu).1).2
 ·exact fun u hu=>by have:=(b3 u hu).2.2;omega
 ·intro l hl
  have h9:=sum_len' (fun s:ByteArray=>s.size+1) (c:=2) (l:=l) (fun s hs=>by have:=(labB_size (b5 l hl s hs)).1;omega)
  have:=hm.lsum l hl
  omega
 ·exact fun e he=>(c2 e he).1
 ·exact fun e he=>(c2 e he).2.2
 ·exact fun e he=>(c2 e he).2.1
theorem equal_D(xs ys:List ByteArray)(hx:xs.length≤maxLen):DCalls Tryz.prog 21 [dv (.sl 1 (strs xs)),dv (.sl 1 (strs ys))] (dv (lb (decide (xs=ys)))):=by
 refine kd (N:=26) (rs:= [.tmp 4]) Tryz.func21 ?_
 by_cases h0:xs.length=ys.length
 ·have t0:((xs.length:Int)!=(ys.length:Int))=false:=by simp;omega
  (repeat'(first|apply kA|apply kB|((first|refine kc (N:=26) ?_|refine kj (N:=26) kq3 ?_|apply kD|apply kE);simp +decide only[go_sem,t0])|(apply kG;(simp +decide only[go_sem,t0];rfl);all_goals(intro hcnd;try exact kz hcnd))))
  refine dw_rngI xs (fun k=>kn 26 [(0,dv (.sl 1 (strs xs))),(1,dv (.sl 1 (strs ys))),(5,dv (li k))] noMem) (fun k=>xs.take k=ys.take k) hx (kL rfl (by simp +decide only[go_sem]) (by simp[noMem])) rfl ?_ ?_
  ·intro k x hx hk hm htk hlt hw hi
   have hyk:k<ys.length:=by omega
   have hy:ys[k]? =some ys[k]:=List.getElem?_eq_getElem hyk
   have hx':=strs_at hx
   have hy':=strs_at hy
   cases t1:x==ys[k]
   ·have hne:x≠ys[k]:=fun e=>by rw[(bytes_eq _ _).2 e]at t1;cases t1
    have:xs≠ys:=fun e=>by
     subst e;rw[hx]at hy;injection hy with hy;exact hne hy
    (repeat'(first|apply kA|apply kB|((first|refine kc (N:=26) ?_|refine kj (N:=26) kq3 ?_|apply kD|apply kE|apply kF);simp +decide only[go_sem,hlt,hw,hx',hy',t1,Bool.not_false])|(apply kG;(simp +decide only[go_sem,hlt,hw,hx',hy',t1,Bool.not_false];rfl);all_goals(intro hcnd;try exact kz hcnd))))
    simp[this]
   ·have he:x=ys[k]:=(bytes_eq _ _).1 t1
    (repeat'(first|apply kA|apply kB|((first|refine kc (N:=26) ?_|refine kj (N:=26) kq3 ?_|apply kD|apply kE|apply kF);simp +decide only[go_sem,hlt,hw,hx',hy',t1,Bool.not_true])|(apply kG;(simp +decide only[go_sem,hlt,hw,hx',hy',t1,Bool.not_true];rfl);all_goals(intro hcnd;try exact kz hcnd))))
    exact⟨by rw[htk,hi,he,← take_snoc hy],kL rfl (by simp +decide only[go_sem]) (by simp[noMem])⟩
  ·intro hlt hi
   rw[List.take_length,h0,List.take_length]at hi
   (repeat'(first|apply kA|apply kB|((first|refine kc (N:=26) ?_|refine kj (N:=26) kq3 ?_|apply kD|apply kE|apply kF);simp +decide only[go_sem,hlt])|(apply kG;(simp +decide only[go_sem,hlt];rfl);all_goals(intro hcnd;try exact kz hcnd))))
   simp[hi]
 ·have t0:((xs.length:Int)!=(ys.length:Int))=true:=by simp;omega
  have:xs≠ys:=fun e=>by subst e;exact h0 rfl
  (repeat'(first|apply kA|apply kB|((first|refine kc (N:=26) ?_|refine kj (N:=26) kq3 ?_|apply kD|apply kE|apply kF);simp +decide only[go_sem,t0])|(apply kG;(simp +decide only[go_sem,t0];rfl);all_goals(intro hcnd;try exact kz hcnd))))
  simp[this]
def exA:Ent:=⟨3,[1,2],1,[[2]],0,[⟨⟨#[100,111,103]⟩,⟨#[]⟩⟩,⟨⟨#[104,111,117,110,100]⟩,⟨#[97,32,100,111,103]⟩⟩],[],[]⟩
def exB:Ent:=⟨5,[3],1,[],3,[],[],[]⟩
def exD:Dic:=⟨[⟨⟨#[98]⟩,0⟩,⟨⟨#[97]⟩,0⟩,⟨⟨#[112]⟩,0⟩],[⟨⟨#[98]⟩,[1]⟩,⟨⟨#[97]⟩,[2]⟩],[[⟨#[97]⟩],[⟨#[98]⟩]],[exA,exB]⟩
def exN:ByteArray:=⟨#[112,108,97,105,110]⟩
def exX:LX:=⟨exN,.sl 6 [],li 1,.sl 3 [[li 0,li 1,li 0]],.sl 1 [[li 0]]⟩
theorem ex_up:UpE exD.lex:=by simp[UpE,exD,exA,exB]
theorem ex_c:lexE exD.inv exD.lex=0:=by decide +kernel
theorem ex_ok:OkD exD:=by
 refine { toRightL:=(lexE_iff _ _).1 ex_c,names:=by decide,units:=⟨by decide,by decide⟩,nsz:=by decide,ilen:=by decide,ulen:=by decide,gsz:=by decide,usg:=by decide,llen:=by decide,lne:=by decide,lll:=by decide,lsz:=by decide,few:=by decide,frm:=by decide,alt:=by decide,nalt:=by decide,mid:=?_ }
 intro e he
 rcases List.mem_cons.1 he with rfl|he
 ·exact⟨by decide,by decide,by decide,by decide,by decide,by decide,by decide⟩
 ·rw[List.mem_singleton.1 he];exact⟨by decide,by decide,by decide,by decide,by decide,by decide,by decide⟩
theorem ex_h3:homE exD.lex 3=0:=(hom_eq (l:=exD.lex) (k:=0) (e:=exA) ex_up rfl).trans (by decide)
theorem ex_h5:homE exD.lex 5=0:=(hom_eq (l:=exD.lex) (k:=1) (e:=exB) ex_up rfl).trans (by decide)
def sBa:ByteArray:=⟨#[98,97]⟩
def sP:ByteArray:=⟨#[112]⟩
theorem ex_g3:getE exD.lex 3=(exA,true):=by decide +kernel
theorem ex_g5:getE exD.lex 5=(exB,true):=by decide +kernel
theorem ex_g4:(getE exD.lex 4).2=false:=by decide +kernel
theorem ex_s3:exD.sp [1,2]=sBa:=by decide +kernel
theorem ex_s5:exD.sp [3]=sP:=by decide +kernel
theorem ex_hd3:exD.head 3=sBa:=by
 unfold Dic.head
 rw[ex_g3,ex_h3,if_neg (by decide),if_neg (by decide)]
 exact ex_s3
theorem ex_hd5:exD.head 5=sP:=by
 unfold Dic.head
 rw[ex_g5,ex_h5,if_neg (by decide),if_neg (by decide)]
 exact ex_s5
theorem ex_hd4:exD.head 4=⟨#[]⟩:=by
 unfold Dic.head
 rw[ex_g4,if_pos rfl]
 rfl
def exL3:List ByteArray:= [⟨#[98,97,32,126,32,97]⟩,⟨#[32,32,49,46,32,100,111,103]⟩,⟨#[32,32,50,46,32,104,111,117,110,100,58,32,97,32,100,111,103]⟩,⟨#[32,32,118,97,114,105,97,110,116,115,58,32,112]⟩]
def exL5:List ByteArray:= [⟨#[112,58,32,115,101,101,32,98,97]⟩]
theorem ex_all:allE exD.lex 3= [5]:=by decide +kernel
theorem ex_lk:exD.links exA= []:=by
 have: ∀k,exD.kindL exA k= []:=fun k=>by unfold Dic.kindL;rw[if_pos (show kindIds exA k= [] from rfl)]
 unfold Dic.links
 rw[List.flatMap_eq_nil_iff]
 intro k _;exact this k
theorem ex_a3:exD.article 3=exL3:=by
 unfold Dic.article
 rw[ex_g3,if_neg (by decide),if_neg (by decide)]
 simp only
 unfold Dic.full
 rw[ex_lk,show exA.id=3 from rfl,ex_all,if_neg (by decide)]
 unfold Dic.first Dic.heads
 rw[show exA.id=3 from rfl,ex_hd3,if_neg (by decide),List.map_cons,List.map_nil,ex_hd5]
 decide +kernel
theorem ex_a5:exD.article 5=exL5:=by
 unfold Dic.article
 rw[ex_g5,if_neg (by decide),if_pos (show(exB,true).fst.senses= [] from rfl)]
 simp only
 rw[show exB.main=3 from rfl,ex_hd3,ex_hd5]
 decide +kernel
theorem ex_a4:exD.article 4= []:=by
 unfold Dic.article
 rw[ex_g4,if_pos rfl]
theorem ex_o:exD.ord= [exA,exB]:=by decide +kernel
def exLn:List ByteArray:=⟨#[61,32,98,32,61]⟩::(exL3++(⟨#[61,32,35,32,61]⟩::exL5))
theorem ex_ln:exD.lines=exLn:=by
 unfold Dic.lines
 rw[ex_o]
 unfold Dic.linesF Dic.linesF Dic.linesF Dic.lineL
 rw[show exA.id=3 from rfl,show exB.id=5 from rfl,ex_a3,ex_a5]
 decide +kernel
def exRv:List ByteArray:= [⟨#[100,111,103,58,32,98,97,32,40,49,41]⟩,⟨#[104,111,117,110,100,58,32,98,97,32,40,50,41]⟩]
theorem ex_rw:V.buildR exD.lex= [⟨⟨#[100,111,103]⟩,[⟨3,0,0⟩]⟩,⟨⟨#[104,111,117,110,100]⟩,[⟨3,0,1⟩]⟩]:=by decide +kernel
theorem ex_rv:exD.rev=exRv:=by
 unfold Dic.rev
 rw[ex_rw]
 simp only[List.map_cons,List.map_nil,Dic.revS,Dic.parts,Dic.partS,ex_g3,ex_hd3]
 decide +kernel
theorem dcalls_out{P:Program}{f:FuncId}{ds:List D}{r r':D}(hl:DLe r r')(hc:DCalls P f ds r):DCalls P f ds r':=by
 unfold DCalls at hc ⊢
 exact⟨hc.1,fun w K vs hk hs hv=>(hc.2 w K vs hk hs hv).mono fun e w' ⟨v,E',h1,h2,h3⟩=>⟨v,E',h1,h2,hl _ _ _ h3⟩⟩
inductive TLeX:List T→List T→Prop where
 | nil:TLeX [] []
 | same (t:T) {l l':List T} (h:TLeX l l'):TLeX (t::l) (t::l')
 | ex (sz:Nat) (xs:List (List C)) {l l':List T} (h:TLeX l l'):TLeX (.ex sz xs::l) (.c (.sl sz xs)::l')
theorem TLeX.get{l l':List T}(h:TLeX l l'):l.length=l'.length∧∀(j:Nat) t',l'[j]? =some t'→∃t,l[j]? =some t∧∀w E v,VT w E t v→VT w E t' v:=by
 induction h with
 | nil=>exact⟨rfl,fun j t h=>by simp at h⟩
 | same t h ih=>
  refine⟨by simp[ih.1],fun j t' ht=>?_⟩
  cases j with
  | zero=>simp at ht;subst ht;exact⟨_,rfl,fun w E v h=>h⟩
  | succ j=>simpa using ih.2 j t' (by simpa using ht)
 | ex sz xs h ih=>
  refine⟨by simp[ih.1],fun j t' ht=>?_⟩
  cases j with
  | zero=>
   simp at ht;subst ht
   refine⟨_,rfl,fun w E v h=>?_⟩
   cases h with
   | ex _ _ _ h _=>exact .c _ _ h
  | succ j=>simpa using ih.2 j t' (by simpa using ht)
theorem dle_aggX{l l':List T}(h:TLeX l l'):DLe (.agg l) (.agg l'):=fun w E v hv=>by
 cases hv with
 | agg _ vs hl hr=>
  refine .agg _ _ (by rw[hl,h.get.1]) fun j t' v ht hv=>?_
  obtain⟨t,h1,h2⟩:=h.get.2 j t' ht
  exact h2 _ _ _ (hr j t v h1 hv)
set_option maxRecDepth 20000 in
theorem example0_D:DCalls Tryz.prog 36 [] (.agg [.ex 2 (exD.inv.map Phon.enc),.c (ls exN),.ex 2 (exD.units.map Unt.enc),.ex 1 (exD.letters.map letC),.ex 6 [],.c (li 1),.ex 3 [[li 0,li 1,li 0]],.ex 1 [[li 0]],.ex 8 (exD.lex.map Ent.enc)]):=by
 refine kd (N:=30) (rs:= [.cell 0 36]) Tryz.func36 ?_
 (repeat'(first|apply kA|apply kB|((first|refine kc (N:=30) ?_|apply kD|apply kE|apply kF);simp +decide only[go_sem])|(apply kG;(simp +decide only[go_sem];rfl);all_goals(intro hcnd;try exact kz hcnd))))
 rfl
theorem example_D:DCalls Tryz.prog 36 [] (.agg (lngRow exX exD)):=
 dcalls_out (dle_aggX (.ex _ _ (.same _ (.ex _ _ (.ex _ _ (.ex _ _ (.same _ (.ex _ _ (.ex _ _ (.ex _ _ .nil)))))))))) example0_D
set_option maxRecDepth 20000 in
theorem awake_D:DCalls Tryz.prog 13 [] (dv (lb true)):=by
 have h0:=example_D
 have a3:=article_D exX ex_ok 3
 have a5:=article_D exX ex_ok 5
 have a4:=article_D exX ex_ok 4
 have r1:=reversal_D exX ex_ok
 have d3:=head_D exX ex_ok 3
 have d4:=head_D exX ex_ok 4
 have s3:=spelled_D exX ex_ok [3] (by decide)
 have o1:=order56_D exX ex_ok
 have n1:=lines_D exX ex_ok o1
 have e1:=equal_D exL3 exL3 (by decide)
 have e2:=equal_D exL5 exL5 (by decide)
 have e3:=equal_D exRv exRv (by decide)
 have e4:=equal_D exLn exLn (by decide)
 have e5:=sameI_D [3,5] [3,5] (by decide)
 rw[ex_a3]at a3
 rw[ex_a5]at a5
 rw[ex_a4]at a4
 rw[ex_rv]at r1
 rw[ex_hd3]at d3
 rw[ex_hd4]at d4
 rw[ex_s5]at s3
 rw[ex_o]at o1
 rw[ex_ln]at n1
 rw[decide_eq_true rfl]at e1 e2 e3 e4 e5
 simp only[List.map_cons,List.map_nil,lngRow,exX,exN,exL3,exL5,exRv,exLn,exA,exB,sBa,sP,List.cons_append,List.nil_append]at h0 a3 a5 a4 r1 d3 d4 s3 o1 n1 e1 e2 e3 e4 e5
 refine kd (N:=53) (rs:= [.tmp 0]) Tryz.func13 ?_
 (repeat'(first|apply kA|apply kB|((first|refine kc (N:=53) ?_|apply kD|apply kE|refine kx h0 ?_|refine kx a3 ?_|refine kx a5 ?_|refine kx a4 ?_|refine kx r1 ?_|refine kx d3 ?_|refine kx d4 ?_|refine kx s3 ?_|refine kx o1 ?_|refine kx n1 ?_|refine kx e1 ?_|refine kx e2 ?_|refine kx e3 ?_|refine kx e4 ?_|refine kx e5 ?_|apply kF);simp +decide only[go_sem,lngRow,exX,exN,List.map_cons,List.map_nil,beq_self_eq_true])|(apply kG;(simp +decide only[go_sem,lngRow,exX,exN,List.map_cons,List.map_nil,beq_self_eq_true];rfl);all_goals(intro hcnd;try exact kz hcnd))|((first|apply kH|apply kI)<;>(intro hcnd;simp +decide only[go_sem,hcnd,lngRow,exX,exN,List.map_cons,List.map_nil,beq_self_eq_true]))))
 all_goals exact absurd hcnd (by decide)
def Dic.hdr(d:Dic)(k:Nat)(e:Ent):List ByteArray:=if d.lastI k=d.sect e then []else [d.sline (d.sect e)]
end Go.Proofs.YtehdkccjaeckhaaGreatDoor
namespace Go.Dl
open Go.RowKit
noncomputable section
def edgesW(P:Program)(ops:List Oper)(hd:List Nat)(ds:List (Option Nat))(St:Nat→DS):List (Nat×Nat)→Prop
 | []=>True
 | (m,i)::r=>Go.Dl.wk P ds (pickH ops hd [i]) (St m) (fun s'=>s'.Sub (St (m ||| 2 ^ i)))∧edgesW P ops hd ds St r
section
variable {P : Program}
def blW(P:Program)(ops:List Oper)(ds:List (Option Nat)):List Nat→DS→(DS→Prop)→Prop
 | [],s,K=>K s
 | i::l,s,K=>Go.Dl.wk P ds (pickM ops .blind [i]) s fun s'=>blW P ops ds l s' K
theorem blW_nil(ops:List Oper)(ds:List (Option Nat))(s:DS)(K:DS→Prop):blW P ops ds [] s K=K s:=rfl
theorem blW_cons(ops:List Oper)(ds:List (Option Nat))(i:Nat)(l:List Nat)(s:DS)(K:DS→Prop):blW P ops ds (i::l) s K=Go.Dl.wk P ds (pickM ops .blind [i]) s fun s'=>blW P ops ds l s' K:=rfl
theorem edgesW_nil(ops:List Oper)(hd:List Nat)(ds:List (Option Nat))(St:Nat→DS):edgesW P ops hd ds St []=True:=rfl
theorem edgesW_cons(ops:List Oper)(hd:List Nat)(ds:List (Option Nat))(St:Nat→DS)(m i:Nat)(r:List (Nat×Nat)):edgesW P ops hd ds St ((m,i)::r)=(Go.Dl.wk P ds (pickH ops hd [i]) (St m) (fun s'=>s'.Sub (St (m ||| 2 ^ i)))∧edgesW P ops hd ds St r):=rfl
attribute [go_sem] blW_nil blW_cons edgesW_nil edgesW_cons
end
end
end Go.Dl
