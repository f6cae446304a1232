/- Dictionaries: the law that each entry is in the lines of its glosses. -/
import Derived.Test.YtehdkccjaeckhaaGreatDoorm5
set_option linter.all false
set_option linter.unusedVariables false
set_option linter.unusedSimpArgs false
set_option maxRecDepth 10000
set_option maxHeartbeats 8000000
namespace Go.Proofs.YtehdkccjaeckhaaGreatDoor
abbrev kpxh33:List (Nat×Go.Dl.Mode):= [(0,.light),(1,.light),(2,.light),(3,.light),(4,.light),(5,.light),(6,.light),(7,.light),(8,.light),(9,.light),(10,.light),(11,.light),(12,.light),(13,.light),(14,.light),(15,.light),(16,.light),(17,.light),(18,.step),(19,.light),(20,.light)]
abbrev kq64:Nat→List (Nat×Go.Dl.Mode):=fun n=>match n with|17=>kpxh33|_=> []
end Go.Proofs.YtehdkccjaeckhaaGreatDoor
open Go.Dl renaming dw_seq → kA, dw_block → kB, dw_reg → kC, dw_skip → kD, dw_exit → kE, dw_ret → kF, dw_cond → kG, guardC_f → kH, guardC_t → kI, dw_drw → kJ, dw_weaken → kK, sub_kn → kL, sub_ml → kM
open Go.Dl.CallC renaming mk → kN, light → kO
open Go.Dl.LeL renaming of_eq → kP
namespace Go.Proofs.YtehdkccjaeckhaaGreatDoor
open Go.Dl
open S (usort)
attribute [local irreducible] DW DCalls ECalls wk IW
theorem joinR_snoc(l:List ByteArray)(s:ByteArray):joinR (l++ [s])=if l.length=0 then s else joinR l++comma++s:=by
 cases l with
 | nil=>rfl
 | cons x l=>simp[joinR,List.foldl_append]
end Go.Proofs.YtehdkccjaeckhaaGreatDoor
namespace Go.Proofs.YtehdkccjaeckhaaGreatDoor
open S (usort)
def conB(s t:ByteArray):Bool:=(List.range (s.size+1)).any fun i=>decide (i+t.size≤s.size)&&(s.extract i (i+t.size)==t)
theorem ext_mid(a b c:ByteArray):(a++b++c).extract a.size (a.size+b.size)=b:=by
 rw[ByteArray.append_assoc,ByteArray.extract_append]
 have h1:a.extract a.size (a.size+b.size)=ByteArray.empty:=ByteArray.extract_eq_empty_iff.2 (by omega)
 rw[h1]
 simp[ByteArray.extract_append_eq_left]
theorem conB_of{s t a b:ByteArray}(h:s=a++t++b):conB s t=true:=by
 subst h
 refine List.any_eq_true.2 ⟨a.size,List.mem_range.2 (by simp only[ByteArray.size_append];omega),?_⟩
 rw[ext_mid]
 have:(t==t)=true:=(bytes_eq _ _).2 rfl
 rw[this]
 simp only[ByteArray.size_append,Bool.and_true,decide_eq_true_eq]
 omega
theorem joinR_has: ∀(n:Nat) (l:List ByteArray),l.length=n→∀x∈l,∃a b,joinR l=a++x++b
 | 0,l,hl,x,hx=>by rw[List.length_eq_zero_iff.1 hl]at hx;simp at hx
 | n+1,l,hl,x,hx=>by
  have hne:l≠ []:=by rintro rfl;simp at hl
  have e:l=l.dropLast++ [l.getLast hne]:=(List.dropLast_concat_getLast hne).symm
  have hd:l.dropLast.length=n:=by rw[List.length_dropLast,hl];omega
  rw[e]at hx ⊢
  rw[joinR_snoc]
  rcases List.mem_append.1 hx with h|h
  ·rw[if_neg (by intro h0;rw[List.length_eq_zero_iff.1 h0]at h;simp at h)]
   obtain⟨a,b,hab⟩:=joinR_has n _ hd x h
   exact⟨a,b++comma++l.getLast hne,by rw[hab];simp only[ByteArray.append_assoc]⟩
  ·rw[List.mem_singleton.1 h]
   split
   ·exact⟨ByteArray.empty,ByteArray.empty,by simp⟩
   ·exact⟨joinR l.dropLast++comma,ByteArray.empty,by simp⟩
def leadB(ln s hd:ByteArray):Bool:=decide (s.size+1<ln.size)&&((ln.extract 0 (s.size+2)==s++colonS)&&conB (ln.extract (s.size+2) ln.size) hd)
theorem lead_line{d:Dic}{e:Ent}(he:e∈d.lex){k:Nat}{s:Sns}(hs:e.senses[k]? =some s): ∃ln∈d.rev,leadB ln s.gloss (d.head e.id)=true:=by
 have hk:k<e.senses.length:=(List.getElem?_eq_some_iff.1 hs).1
 obtain⟨r,hr,hg,hp⟩:=(V.has_buildR d.lex s.gloss (V.pt e.id k)).2 ⟨e,he,k,s,hk,hs,rfl,rfl⟩
 refine⟨d.revS r,List.mem_map.2 ⟨r,hr,rfl⟩,?_⟩
 obtain⟨a,b,hab⟩:=joinR_has _ (d.parts r.senses) rfl (d.partS (V.pt e.id k)) (List.mem_map.2 ⟨_,hp,rfl⟩)
 have hpart: ∃u,d.partS (V.pt e.id k)=d.head e.id++u:=by
  unfold Dic.partS
  split
  ·exact⟨_,rfl⟩
  ·exact⟨ByteArray.empty,by simp[V.pt]⟩
 obtain⟨u,hu⟩:=hpart
 have hc2:colonS.size=2:=rfl
 have hln:d.revS r=s.gloss++colonS++joinR (d.parts r.senses):=by unfold Dic.revS;rw[hg]
 have hx1:(d.revS r).extract 0 (s.gloss.size+2)=s.gloss++colonS:=by
  rw[hln]
  exact ByteArray.extract_append_eq_left (by rw[ByteArray.size_append,hc2])
 have hx2:(d.revS r).extract (s.gloss.size+2) (d.revS r).size=joinR (d.parts r.senses):=by
  rw[hln]
  have:=ext_mid (s.gloss++colonS) (joinR (d.parts r.senses)) ByteArray.empty
  rw[ByteArray.append_empty,ByteArray.size_append,hc2]at this
  rw[ByteArray.size_append,ByteArray.size_append,hc2]
  exact this
 unfold leadB
 rw[hx1,hx2,conB_of (a:=a) (b:=u++b) (by rw[hab,hu];simp only[ByteArray.append_assoc])]
 have h1:(s.gloss++colonS==s.gloss++colonS)=true:=(bytes_eq _ _).2 rfl
 rw[h1,hln]
 simp only[ByteArray.size_append,hc2,Bool.and_true,decide_eq_true_eq]
 omega
def addG(gl:List ByteArray)(s:ByteArray):List ByteArray:=if(gl.any fun t=>t==s)=true then gl else gl++ [s]
def gAcc(l:List ByteArray):List ByteArray:=l.foldl addG []
theorem gAcc_snoc(l:List ByteArray)(s:ByteArray):gAcc (l++ [s])=addG (gAcc l) s:=by simp[gAcc,List.foldl_append]
theorem any_mem(gl:List ByteArray)(s:ByteArray):(gl.any fun t=>t==s)=true↔s∈gl:=by
 rw[List.any_eq_true]
 constructor
 ·rintro⟨t,ht,h⟩;rw[← (bytes_eq _ _).1 h];exact ht
 ·intro h;exact⟨s,h,(bytes_eq _ _).2 rfl⟩
theorem addG_mem(gl:List ByteArray)(s x:ByteArray):x∈addG gl s↔x∈gl∨x=s:=by
 unfold addG
 split
 ·rename_i h
  constructor
  ·exact .inl
  ·rintro(h1|rfl)
   ·exact h1
   ·exact(any_mem _ _).1 h
 ·simp
theorem addG_nodup{gl:List ByteArray}(h:gl.Nodup)(s:ByteArray):(addG gl s).Nodup:=by
 unfold addG
 split
 ·exact h
 ·rename_i h1
  rw[List.nodup_append]
  refine⟨h,by simp,fun x hx y hy=>?_⟩
  rw[List.mem_singleton.1 hy]
  rintro rfl
  exact h1 ((any_mem _ _).2 hx)
theorem fold_mem(x:ByteArray): ∀(l gl:List ByteArray),x∈l.foldl addG gl↔x∈gl∨x∈l
 | [],gl=>by simp
 | s::l,gl=>by
  rw[List.foldl_cons,fold_mem x l,addG_mem,List.mem_cons,or_assoc]
theorem fold_nodup: ∀(l gl:List ByteArray),gl.Nodup→(l.foldl addG gl).Nodup
 | [],_,h=>h
 | s::l,gl,h=>fold_nodup l _ (addG_nodup h s)
theorem addG_len(gl:List ByteArray)(s:ByteArray):(addG gl s).length≤gl.length+1:=by
 unfold addG;split
 ·omega
 ·simp
theorem fold_len: ∀(l gl:List ByteArray),(l.foldl addG gl).length≤gl.length+l.length
 | [],_=>by simp
 | s::l,gl=>by
  rw[List.foldl_cons,List.length_cons]
  have:=fold_len l (addG gl s)
  have:=addG_len gl s
  omega
theorem gAcc_len(l:List ByteArray):(gAcc l).length≤l.length:=by have:=fold_len l [];simpa[gAcc]using this
def allG(l:List Ent):List ByteArray:=l.flatMap fun e=>e.senses.map (·.gloss)
def upG(l:List Ent)(i:Nat):List ByteArray:=allG (l.take i)
theorem upG_zero(l:List Ent):upG l 0= []:=rfl
theorem upG_succ{l:List Ent}{i:Nat}{e:Ent}(h:l[i]? =some e):upG l (i+1)=upG l i++e.senses.map (·.gloss):=by
 unfold upG allG;rw[List.take_add_one,h,List.flatMap_append];simp
theorem upG_all(l:List Ent):upG l l.length=allG l:=by unfold upG;rw[List.take_length]
theorem upG_len{l:List Ent}{c:Nat}(h: ∀e∈l,e.senses.length≤c): ∀i,(upG l i).length≤i*c
 | 0=>by simp[upG_zero]
 | i+1=>by
  rw[Nat.succ_mul]
  have ih:=upG_len h i
  cases e:l[i]? with
  | none=>
   have:upG l (i+1)=upG l i:=by unfold upG;rw[List.take_add_one,e];simp
   rw[this];omega
  | some x=>
   rw[upG_succ e,List.length_append,List.length_map]
   have:=h x (List.mem_of_getElem? e)
   omega
theorem rev_glosses(d:Dic):d.rev.length=(gAcc (allG d.lex)).length:=by
 have hg:=V.buildR_good d.lex
 have e1:d.rev.length=((V.buildR d.lex).map (·.gloss)).length:=by unfold Dic.rev;rw[List.length_map,List.length_map]
 rw[e1]
 refine List.Perm.length_eq ((List.perm_ext_iff_of_nodup ?_ (fold_nodup _ _ (by simp))).2 fun s=>?_)
 ·unfold List.Nodup
  rw[List.pairwise_map]
  refine hg.pw.imp fun {a b} h e=>?_
  rw[e,V.strLt_irrefl]at h;cases h
 ·rw[fold_mem]
  simp only[List.not_mem_nil,false_or,allG,List.mem_flatMap,List.mem_map]
  constructor
  ·rintro⟨r,hr,rfl⟩
   obtain⟨p,hp⟩:=List.exists_mem_of_ne_nil _ (hg.ne r hr)
   obtain⟨e,he,k,s,hk,hs,h1,-⟩:=(V.has_buildR d.lex r.gloss p).1 ⟨r,hr,rfl,hp⟩
   exact⟨e,he,s,List.mem_of_getElem? hs,h1.symm⟩
  ·rintro⟨e,he,s,hs,rfl⟩
   obtain⟨k,hk⟩:=List.mem_iff_getElem?.1 hs
   obtain⟨r,hr,h1,-⟩:=(V.has_buildR d.lex s.gloss (V.pt e.id k)).2 ⟨e,he,k,s,(List.getElem?_eq_some_iff.1 hk).1,hk,rfl,rfl⟩
   exact⟨r,hr,h1⟩
end Go.Proofs.YtehdkccjaeckhaaGreatDoor
namespace Go.Proofs.YtehdkccjaeckhaaGreatDoor
open Go.Dl
open S (usort)
attribute [local irreducible] DW DCalls ECalls wk IW
theorem conB_no{s t:ByteArray}{k:Nat}(hk:s.size<k+t.size)(h: ∀j,j<k→(decide (j+t.size≤s.size)&&(s.extract j (j+t.size)==t))=false):conB s t=false:=by
 unfold conB
 rw[List.any_eq_false]
 intro i hi
 rcases Nat.lt_or_ge i k with h1|h1
 ·rw[h i h1];decide
 ·rw[show decide (i+t.size≤s.size)=false by simp;omega];simp
theorem contains_D(s t:ByteArray)(hs:s.size≤1000000000)(ht:t.size≤1000000000):DCalls Tryz.prog 33 [dv (ls s),dv (ls t)] (dv (lb (conB s t))):=by
 have hmax:maxLen=9223372036854775807:=rfl
 refine kd (N:=24) (rs:= [.tmp 4]) Tryz.func33 ?_
 (repeat'(first|apply kA|apply kB|((first|refine kc (N:=24) ?_|apply kD|apply kE);simp +decide only[go_sem])|(apply kG;(simp +decide only[go_sem];rfl);all_goals(intro hcnd;try exact kz hcnd))))
 refine dw_loop_fam (fun k:Nat=>kn 24 [(0,dv (ls s)),(1,dv (ls t)),(5,dv (li k))] noMem) (fun k=>k≤s.size+1∧∀j,j<k→(decide (j+t.size≤s.size)&&(s.extract j (j+t.size)==t))=false) (fun k=>s.size+1 - k) 0
  (kL rfl (by simp +decide only[go_sem]) (by simp[noMem])) ⟨by omega,fun j hj=>absurd hj (Nat.not_lt_zero _)⟩ ?_
 rintro k ⟨hk,hj⟩
 have w1:IntKind.i64.wrap ((k:Int)+(t.size:Int))=((k+t.size:Nat):Int):=by rw[wrap_i64 (by omega) (by omega)];omega
 have w2:=wrap_succ k (by omega)
 by_cases h1:k+t.size≤s.size
 ·have t1:decide (((k+t.size:Nat):Int)≤(s.size:Int))=true:=by simp;omega
  have t3:(k≤k+t.size∧k+t.size≤s.size)=True:=eq_true (by omega)
  cases t2:s.extract k (k+t.size)==t
  ·(repeat'(first|apply kA|apply kB|((first|refine kc (N:=24) ?_|apply kD|apply kE);simp +decide only[go_sem,w1,w2,t1,t2,t3])|(apply kG;(simp +decide only[go_sem,w1,w2,t1,t2,t3];rfl);all_goals(intro hcnd;try exact kz hcnd))))
   refine⟨k+1,⟨by omega,fun j hjk=>?_⟩,by omega,kL rfl (by simp +decide only[go_sem]) (by simp[noMem])⟩
   rcases Nat.lt_or_ge j k with h3|h3
   ·exact hj j h3
   ·rw[show j=k by omega,t2,Bool.and_false]
  ·rw[show conB s t=true from List.any_eq_true.2 ⟨k,List.mem_range.2 (by omega),by rw[t2];simpa using h1⟩]
   (repeat'(first|apply kA|apply kB|((first|refine kc (N:=24) ?_|apply kD|apply kE|apply kF);simp +decide only[go_sem,w1,w2,t1,t2,t3])|(apply kG;(simp +decide only[go_sem,w1,w2,t1,t2,t3];rfl);all_goals(intro hcnd;try exact kz hcnd))))
 ·have t1:decide (((k+t.size:Nat):Int)≤(s.size:Int))=false:=by simp;omega
  rw[conB_no (by omega) hj]
  (repeat'(first|apply kA|apply kB|((first|refine kc (N:=24) ?_|apply kD|apply kE|apply kF);simp +decide only[go_sem,w1,t1])|(apply kG;(simp +decide only[go_sem,w1,t1];rfl);all_goals(intro hcnd;try exact kz hcnd))))
theorem any_succ{α:Type}{l:List α}{k:Nat}{x:α}(q:α→Bool)(h:l[k]? =some x):(l.take (k+1)).any q=((l.take k).any q||q x):=by
 rw[take_snoc h,List.any_append];simp
theorem revS_le{d:Dic}(hd:OkD d): ∀ln∈d.rev,ln.size≤2000000:=fun ln h=>by
 obtain⟨r,hr,rfl⟩:=List.mem_map.1 h
 have h1:=row_gloss hd hr
 have h2:=joinR_le3 (fun s hs=>(parts_le hd hr s hs).1)
 have h3:=(rev_few hd).2 r hr
 rw[parts_len]at h2
 have:r.senses.length*(603+2)≤25*(603+2):=Nat.mul_le_mul_right _ h3
 have hc:colonS.size=2:=rfl
 unfold Dic.revS
 rw[ByteArray.size_append,ByteArray.size_append];omega
theorem lawLeads(g:Lng)(hm:MidL g):DCalls Tryz.prog 10 [.agg (lngRow g.x g.d)] (dv (lb true)):=by
 have hmax:maxLen=9223372036854775807:=rfl
 have hL:=rLight_D g hm
 have hW:=awake_D
 simp only[lngRow]at hL
 refine kd (N:=125) (rs:= [.tmp 2]) Tryz.func10 ?_
 cases t1:lightB g
 ·rw[t1]at hL
  (repeat'(first|apply kA|apply kB|((first|refine kc (N:=125) ?_|refine kj (N:=125) kq64 ?_|apply kD|apply kE|refine kx hL ?_|refine kx hW ?_|apply kF);simp +decide only[go_sem,lngRow])|(apply kG;(simp +decide only[go_sem,lngRow];rfl);all_goals(intro hcnd;try exact kz hcnd))|((first|apply kH|apply kI)<;>(intro hcnd;simp +decide only[go_sem,hcnd,lngRow]))))
 rw[t1]at hL
 have hok:=light_ok hm t1
 clear t1
 generalize g.x=x at hL ⊢
 generalize g.d=d at hL hok ⊢
 have hf:=hok.few
 have hR:=reversal_D x hok
 have hrl:d.rev.length≤25:=by have:=(rev_few hok).1;unfold Dic.rev;rw[List.length_map];omega
 have hrs:=revS_le hok
 have hfin:=rev_glosses d
 have hs5: ∀e∈d.lex,e.senses.length≤5:=fun e he=>(links_few hok he).2
 simp only[lngRow]at hR
 (repeat'(first|apply kA|apply kB|((first|refine kc (N:=125) ?_|refine kj (N:=125) kq64 ?_|apply kD|apply kE|refine kx hL ?_|refine kx hR ?_);simp +decide only[go_sem,lngRow])|(apply kG;(simp +decide only[go_sem,lngRow];rfl);all_goals(intro hcnd;try exact kz hcnd))|((first|apply kH|apply kI)<;>(intro hcnd;simp +decide only[go_sem,hcnd,lngRow]))))
 refine dw_own 4 4 1 (by simp +decide only[go_sem]) ?_
 refine dw_rng0 d.lex (fun i=>kn 125 [(1,.one (.bx 1 9 0 0)),(3,dv (.sl 1 (strs d.rev))),(4,.one (.own 4 1 (strs (gAcc (upG d.lex i))))),(5,dv (li i))] (ml [(1,[lngRow x d])])) (by omega)
  (kM rfl (by simp +decide only[go_sem,lngRow,upG_zero,gAcc,List.foldl_nil,List.map_nil,List.length_cons,List.length_nil]) (by simp +decide only[go_sem,lngRow])) ?_ ?_
 ·intro i e he hi hme hti hlti hwi
  have hH:=head_D x hok e.id
  have hhl:=head_le hok e.id
  have hse:=hs5 e hme
  have hul:=upG_len hs5 i
  have hui:=upG_succ he
  simp only[lngRow]at hH
  (repeat'(first|apply kA|apply kB|((first|refine kc (N:=125) ?_|refine kj (N:=125) kq64 ?_|apply kD|apply kE);simp +decide only[go_sem,hlti,hwi,he,Ent.enc,lngRow])|(apply kG;(simp +decide only[go_sem,hlti,hwi,he,Ent.enc,lngRow];rfl);all_goals(intro hcnd;try exact kz hcnd))|((first|apply kH|apply kI)<;>(intro hcnd;simp +decide only[go_sem,hcnd,hlti,hwi,he,Ent.enc,lngRow]))))
  refine dw_rng0 e.senses (fun k=>kn 125 [(1,.one (.bx 1 9 0 0)),(3,dv (.sl 1 (strs d.rev))),(4,.one (.own 4 1 (strs (gAcc (upG d.lex i++(e.senses.take k).map (·.gloss)))))),(5,dv (li i)),(6,dv (li k))] (ml [(1,[lngRow x d])])) (by omega)
   (kM rfl (by simp +decide only[go_sem,lngRow,List.take_zero,List.map_nil,List.append_nil]) (by simp +decide only[go_sem,lngRow])) ?_ ?_
  ·intro k s hs hk hms htk hltk hwk
   have hlead:=lead_line hme hs
   have hz:=(hok.mid e hme).strs s hms
   have hst:gAcc (upG d.lex i++(e.senses.take (k+1)).map (·.gloss))=addG (gAcc (upG d.lex i++(e.senses.take k).map (·.gloss))) s.gloss:=by
    rw[htk,List.map_append,← List.append_assoc];exact gAcc_snoc _ _
   have hgl:(gAcc (upG d.lex i++(e.senses.take k).map (·.gloss))).length≤30:=by
    have h1:=gAcc_len (upG d.lex i++(e.senses.take k).map (·.gloss))
    rw[List.length_append,List.length_map,List.length_take]at h1
    have:i*5≤4*5:=Nat.mul_le_mul_right _ (by omega)
    omega
   rw[hst]
   generalize gAcc (upG d.lex i++(e.senses.take k).map (·.gloss))=gl at hgl ⊢
   have w1:IntKind.i64.wrap ((s.gloss.size:Int)+1)=((s.gloss.size+1:Nat):Int):=wrap_succ _ (by omega)
   have w2:IntKind.i64.wrap ((s.gloss.size:Int)+2)=((s.gloss.size+2:Nat):Int):=by rw[wrap_i64 (by omega) (by omega)];omega
   (repeat'(first|apply kA|apply kB|((first|refine kc (N:=125) ?_|refine kj (N:=125) kq64 ?_|apply kD|apply kE);simp +decide only[go_sem,hltk,hwk,he,hs,Ent.enc,Sns.enc,lngRow])|(apply kG;(simp +decide only[go_sem,hltk,hwk,he,hs,Ent.enc,Sns.enc,lngRow];rfl);all_goals(intro hcnd;try exact kz hcnd))|((first|apply kH|apply kI)<;>(intro hcnd;simp +decide only[go_sem,hcnd,hltk,hwk,he,hs,Ent.enc,Sns.enc,lngRow]))))
   -- the lines
   refine dw_after (fun _:Unit=>kn 125 [(1,.one (.bx 1 9 0 0)),(3,dv (.sl 1 (strs d.rev))),(4,.one (.own 4 1 (strs gl))),(5,dv (li i)),(6,dv (li k)),(7,dv (ls s.gloss)),(8,dv (lb (d.rev.any fun ln=>leadB ln s.gloss (d.head e.id)))),(9,dv (lb false))] (ml [(1,[lngRow x d])])) (fun _=>True) ?_ ?_
   ·refine dw_rng0 d.rev (fun j=>kn 125 [(1,.one (.bx 1 9 0 0)),(3,dv (.sl 1 (strs d.rev))),(4,.one (.own 4 1 (strs gl))),(5,dv (li i)),(6,dv (li k)),(7,dv (ls s.gloss)),(8,dv (lb ((d.rev.take j).any fun ln=>leadB ln s.gloss (d.head e.id)))),(9,dv (lb false)),(10,dv (li j))] (ml [(1,[lngRow x d])])) (by omega)
     (kM rfl (by simp +decide only[go_sem,lngRow,List.take_zero,List.any_nil]) (by simp +decide only[go_sem,lngRow])) ?_ ?_
    ·intro j ln hln hj hmln htj hltj hwj
     have hst2:=any_succ (fun ln=>leadB ln s.gloss (d.head e.id)) hln
     have hlz:=hrs ln hmln
     rw[hst2]
     generalize (d.rev.take j).any (fun ln=>leadB ln s.gloss (d.head e.id))=fk
     unfold leadB
     by_cases h1:s.gloss.size+1<ln.size
     rotate_left
     ·have c1:decide (((s.gloss.size+1:Nat):Int)<(ln.size:Int))=false:=by simp;omega
      rw[show decide (s.gloss.size+1<ln.size)=false by simpa using h1,Bool.false_and,Bool.or_false]
      (repeat'(first|apply kA|apply kB|((first|refine kc (N:=125) ?_|refine kj (N:=125) kq64 ?_|apply kD|apply kE);simp +decide only[go_sem,hltj,hwj,hln,Option.map_some,w1,c1])|(apply kG;(simp +decide only[go_sem,hltj,hwj,hln,Option.map_some,w1,c1];rfl);all_goals(intro hcnd;try exact kz hcnd))|((first|apply kH|apply kI)<;>(intro hcnd;simp +decide only[go_sem,hcnd,hltj,hwj,hln,Option.map_some,w1,c1]))))
      exact kM rfl (by simp +decide only[go_sem,lngRow]) (by simp +decide only[go_sem,lngRow])
     have c1:decide (((s.gloss.size+1:Nat):Int)<(ln.size:Int))=true:=by simp;omega
     have c3:(s.gloss.size+2≤ln.size)=True:=eq_true (by omega)
     have z1:(s.gloss.size+ #[(58:UInt8),32].size≤maxLen)=True:=mx (by simp only[List.size_toArray,List.length_cons,List.length_nil];omega)
     rw[show decide (s.gloss.size+1<ln.size)=true by simpa using h1,Bool.true_and]
     have hcn:=contains_D (ln.extract (s.gloss.size+2) ln.size) (d.head e.id) (by rw[ByteArray.size_extract];omega) (by omega)
     unfold colonS
     cases c2:ln.extract 0 (s.gloss.size+2)==s.gloss++({ data:= #[58,32] }:ByteArray)
     ·rw[Bool.false_and,Bool.or_false]
      (repeat'(first|apply kA|apply kB|((first|refine kc (N:=125) ?_|refine kj (N:=125) kq64 ?_|apply kD|apply kE);simp +decide only[go_sem,hltj,hwj,hln,Option.map_some,w1,w2,c1,c2,c3,z1,Nat.zero_le,true_and,Int.toNat_natCast])|(apply kG;(simp +decide only[go_sem,hltj,hwj,hln,Option.map_some,w1,w2,c1,c2,c3,z1,Nat.zero_le,true_and,Int.toNat_natCast];rfl);all_goals(intro hcnd;try exact kz hcnd))|((first|apply kH|apply kI)<;>(intro hcnd;simp +decide only[go_sem,hcnd,hltj,hwj,hln,Option.map_some,w1,w2,c1,c2,c3,z1,Nat.zero_le,true_and,Int.toNat_natCast]))))
      exact kM rfl (by simp +decide only[go_sem,lngRow]) (by simp +decide only[go_sem,lngRow])
     ·rw[Bool.true_and]
      cases fk
      ·rw[Bool.false_or]
       (repeat'(first|apply kA|apply kB|((first|refine kc (N:=125) ?_|refine kj (N:=125) kq64 ?_|apply kD|apply kE|refine kx hH ?_|refine kx hcn ?_);simp +decide only[go_sem,hltj,hwj,hln,he,Option.map_some,w1,w2,c1,c2,c3,z1,Nat.zero_le,Nat.le_refl,true_and,and_true,Int.toNat_natCast,Ent.enc,lngRow])|(apply kG;(simp +decide only[go_sem,hltj,hwj,hln,he,Option.map_some,w1,w2,c1,c2,c3,z1,Nat.zero_le,Nat.le_refl,true_and,and_true,Int.toNat_natCast,Ent.enc,lngRow];rfl);all_goals(intro hcnd;try exact kz hcnd))|((first|apply kH|apply kI)<;>(intro hcnd;simp +decide only[go_sem,hcnd,hltj,hwj,hln,he,Option.map_some,w1,w2,c1,c2,c3,z1,Nat.zero_le,Nat.le_refl,true_and,and_true,Int.toNat_natCast,Ent.enc,lngRow]))))
       exact kM rfl (by simp +decide only[go_sem,lngRow]) (by simp +decide only[go_sem,lngRow])
      ·rw[Bool.true_or]
       (repeat'(first|apply kA|apply kB|((first|refine kc (N:=125) ?_|refine kj (N:=125) kq64 ?_|apply kD|apply kE);simp +decide only[go_sem,hltj,hwj,hln,Option.map_some,w1,w2,c1,c2,c3,z1,Nat.zero_le,true_and,Int.toNat_natCast])|(apply kG;(simp +decide only[go_sem,hltj,hwj,hln,Option.map_some,w1,w2,c1,c2,c3,z1,Nat.zero_le,true_and,Int.toNat_natCast];rfl);all_goals(intro hcnd;try exact kz hcnd))|((first|apply kH|apply kI)<;>(intro hcnd;simp +decide only[go_sem,hcnd,hltj,hwj,hln,Option.map_some,w1,w2,c1,c2,c3,z1,Nat.zero_le,true_and,Int.toNat_natCast]))))
       exact kM rfl (by simp +decide only[go_sem,lngRow]) (by simp +decide only[go_sem,lngRow])
    ·intro hltj
     rw[List.take_length]
     (repeat'(first|apply kA|apply kB|((first|refine kc (N:=125) ?_|refine kj (N:=125) kq64 ?_|apply kD|apply kE);simp +decide only[go_sem,hltj])|(apply kG;(simp +decide only[go_sem,hltj];rfl);all_goals(intro hcnd;try exact kz hcnd))|((first|apply kH|apply kI)<;>(intro hcnd;simp +decide only[go_sem,hcnd,hltj]))))
     exact⟨(),kM rfl (by simp +decide only[go_sem,lngRow]) (by simp +decide only[go_sem,lngRow])⟩
   rintro _ _
   have hfound:(d.rev.any fun ln=>leadB ln s.gloss (d.head e.id))=true:=by
    obtain⟨ln,h1,h2⟩:=hlead
    exact List.any_eq_true.2 ⟨ln,h1,h2⟩
   rw[hfound]
   (repeat'(first|apply kA|apply kB|((first|refine kc (N:=125) ?_|refine kj (N:=125) kq64 ?_|apply kD|apply kE);simp +decide only[go_sem])|(apply kG;(simp +decide only[go_sem];rfl);all_goals(intro hcnd;try exact kz hcnd))|((first|apply kH|apply kI)<;>(intro hcnd;simp +decide only[go_sem,hcnd]))))
   refine dw_after (fun _:Unit=>kn 125 [(1,.one (.bx 1 9 0 0)),(3,dv (.sl 1 (strs d.rev))),(4,.one (.own 4 1 (strs gl))),(5,dv (li i)),(6,dv (li k)),(7,dv (ls s.gloss)),(8,dv (lb true)),(9,dv (lb (gl.any fun t=>t==s.gloss)))] (ml [(1,[lngRow x d])])) (fun _=>True) ?_ ?_
   ·refine dw_rng0 gl (fun j=>kn 125 [(1,.one (.bx 1 9 0 0)),(3,dv (.sl 1 (strs d.rev))),(4,.one (.own 4 1 (strs gl))),(5,dv (li i)),(6,dv (li k)),(7,dv (ls s.gloss)),(8,dv (lb true)),(9,dv (lb ((gl.take j).any fun t=>t==s.gloss))),(11,dv (li j))] (ml [(1,[lngRow x d])])) (by omega)
     (kM rfl (by simp +decide only[go_sem,lngRow,List.take_zero,List.any_nil]) (by simp +decide only[go_sem,lngRow])) ?_ ?_
    ·intro j t ht hj hmt htj hltj hwj
     have hst2:=any_succ (fun t=>t==s.gloss) ht
     rw[hst2]
     generalize (gl.take j).any (fun t=>t==s.gloss)=fk
     cases fk
     ·rw[Bool.false_or]
      (repeat'(first|apply kA|apply kB|((first|refine kc (N:=125) ?_|refine kj (N:=125) kq64 ?_|apply kD|apply kE);simp +decide only[go_sem,hltj,hwj,ht,Option.map_some])|(apply kG;(simp +decide only[go_sem,hltj,hwj,ht,Option.map_some];rfl);all_goals(intro hcnd;try exact kz hcnd))|((first|apply kH|apply kI)<;>(intro hcnd;simp +decide only[go_sem,hcnd,hltj,hwj,ht,Option.map_some]))))
      exact kM rfl (by simp +decide only[go_sem,lngRow]) (by simp +decide only[go_sem,lngRow])
     ·rw[Bool.true_or]
      (repeat'(first|apply kA|apply kB|((first|refine kc (N:=125) ?_|refine kj (N:=125) kq64 ?_|apply kD|apply kE);simp +decide only[go_sem,hltj,hwj,ht,Option.map_some])|(apply kG;(simp +decide only[go_sem,hltj,hwj,ht,Option.map_some];rfl);all_goals(intro hcnd;try exact kz hcnd))|((first|apply kH|apply kI)<;>(intro hcnd;simp +decide only[go_sem,hcnd,hltj,hwj,ht,Option.map_some]))))
      exact kM rfl (by simp +decide only[go_sem,lngRow]) (by simp +decide only[go_sem,lngRow])
    ·intro hltj
     rw[List.take_length]
     (repeat'(first|apply kA|apply kB|((first|refine kc (N:=125) ?_|refine kj (N:=125) kq64 ?_|apply kD|apply kE);simp +decide only[go_sem,hltj])|(apply kG;(simp +decide only[go_sem,hltj];rfl);all_goals(intro hcnd;try exact kz hcnd))|((first|apply kH|apply kI)<;>(intro hcnd;simp +decide only[go_sem,hcnd,hltj]))))
     exact⟨(),kM rfl (by simp +decide only[go_sem,lngRow]) (by simp +decide only[go_sem,lngRow])⟩
   rintro _ _
   have r1:((gl.length+1)*16≤140737488355328)=True:=eq_true (by omega)
   unfold addG
   cases c5:gl.any fun t=>t==s.gloss
   ·rw[if_neg (by decide)]
    (repeat'(first|apply kA|apply kB|((first|refine kc (N:=125) ?_|refine kj (N:=125) kq64 ?_|apply kD|apply kE);simp +decide only[go_sem,hwk,r1])|(apply kG;(simp +decide only[go_sem,hwk,r1];rfl);all_goals(intro hcnd;try exact kz hcnd))|((first|apply kH|apply kI)<;>(intro hcnd;simp +decide only[go_sem,hcnd,hwk,r1]))))
    exact kM rfl (by simp +decide only[go_sem,lngRow,List.map_append,List.map_cons,List.map_nil]) (by simp +decide only[go_sem,lngRow])
   ·rw[if_pos rfl]
    (repeat'(first|apply kA|apply kB|((first|refine kc (N:=125) ?_|refine kj (N:=125) kq64 ?_|apply kD|apply kE);simp +decide only[go_sem,hwk,r1])|(apply kG;(simp +decide only[go_sem,hwk,r1];rfl);all_goals(intro hcnd;try exact kz hcnd))|((first|apply kH|apply kI)<;>(intro hcnd;simp +decide only[go_sem,hcnd,hwk,r1]))))
    exact kM rfl (by simp +decide only[go_sem,lngRow]) (by simp +decide only[go_sem,lngRow])
  ·intro hltk
   rw[List.take_length,← hui]
   (repeat'(first|apply kA|apply kB|((first|refine kc (N:=125) ?_|refine kj (N:=125) kq64 ?_|apply kD|apply kE);simp +decide only[go_sem,hltk,hwi,he,Ent.enc,lngRow])|(apply kG;(simp +decide only[go_sem,hltk,hwi,he,Ent.enc,lngRow];rfl);all_goals(intro hcnd;try exact kz hcnd))|((first|apply kH|apply kI)<;>(intro hcnd;simp +decide only[go_sem,hcnd,hltk,hwi,he,Ent.enc,lngRow]))))
   exact kM rfl (by simp +decide only[go_sem,lngRow]) (by simp +decide only[go_sem,lngRow])
 ·intro hlt
  rw[upG_all]
  have c1:((d.rev.length:Int)==((gAcc (allG d.lex)).length:Int))=true:=by rw[hfin];exact beq_self_eq_true _
  (repeat'(first|apply kA|apply kB|((first|refine kc (N:=125) ?_|refine kj (N:=125) kq64 ?_|apply kD|apply kE|refine kx hW ?_|apply kF);simp +decide only[go_sem,hlt,c1,lngRow])|(apply kG;(simp +decide only[go_sem,hlt,c1,lngRow];rfl);all_goals(intro hcnd;try exact kz hcnd))|((first|apply kH|apply kI)<;>(intro hcnd;simp +decide only[go_sem,hcnd,hlt,c1,lngRow]))))
end Go.Proofs.YtehdkccjaeckhaaGreatDoor
