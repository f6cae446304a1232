/- The logic of data over the kit's walk, and contracts of the functions that the laws reach, each said by plain data; part 7 of 7. -/
import Derived.Test.YtaaodllggdjhiaaGreatDoorm5
set_option linter.all false
set_option linter.unusedVariables false
set_option linter.unusedSimpArgs false
set_option maxRecDepth 10000
set_option maxHeartbeats 8000000
open Bool renaming or_false → yf, or_true → yD, not_true → wT, not_false → yB
open List renaming map_cons → wt, map_nil → wn, mem_append → wo, mem_of_mem_take → yt, mem_of_mem_drop → ym, cons_append → wH, nil_append → wE, length_map → we, length_filter_le → wC, length_cons → wz, length_nil → wR
open Nat renaming le_refl → wv, le_trans → wD
open Option renaming map_some → w4
open Go.Dl renaming dw_seq → kA, dw_block → kB, dw_reg → kC, dw_skip → kD, dw_exit → kE, dw_ret → kF, dw_cond → kG, guardC_f → kH, guardC_t → kI, dw_drw → kJ, dw_weaken → kK, sub_kn → kL, sub_ml → kM
open Go.Dl.CallC renaming mk → kN, light → kO
open Go.Dl.LeL renaming of_eq → kP
namespace Go.Proofs.YtaaodllggdjhiaaGreatDoor
open Go.Dl S
attribute [local irreducible] DW DCalls ECalls qo wk IW
theorem qpy{l:List Pst}{d:Dcm}(H:SrcH l d)(c:Nat){op:Int}(hop:op=1\/op=4\/op=5\/op=6)(role:Int)(txt:ByteArray)(k0 k1:Qry)(hr0:RunC l d (c+NB) k0)(hr1:RunC l d (c+NB) k1):RunC l d c (.mk op role txt [k0,k1]):=by
 have hl:=H.hl
 have hel0:=qaY H.W ql k0
 have hel1:=qaY H.W ql k1
 have wa: ∀x∈k0.ev d ql,wfI x:=fun x hx=>Zv H.W H.hi ((zW H.W ql k0).2 x hx)
 have wb: ∀x∈k1.ev d ql,wfI x:=fun x hx=>Zv H.W H.hi ((zW H.W ql k1).2 x hx)
 have he:Qry.ev d ql (.mk op role txt [k0,k1])=Zt d ql op role txt (k0.ev d ql) (k1.ev d ql):=by rw[Qry.ev];rfl
 have hE: ∀b,Zt d ql op role txt [] b= []:=fun b=>qqS d ql role txt b (by omega) (by omega) (by omega)
 unfold RunC at hr0 hr1 ⊢
 rw[he]
 generalize k0.ev d ql=a at*
 generalize k1.ev d ql=b at*
 have hM1:=both_D a b wa wb (by omega) (by omega)
 have hM4:=thenM_D d H.W H.hl H.hi a b (by omega) (by omega)
 have hM5:=qo5 d H.W (by omega) H.ht H.hi a b (by omega) (by omega)
 have hM6:=hasM_D d H.W (by omega) H.ht H.hi a b (by omega) (by omega)
 rw[<-show Zt d ql 1 role txt a b=botI a b from rfl]at hM1
 rw[<-show Zt d ql 4 role txt a b=qhK d a b from rfl]at hM4
 rw[<-show Zt d ql 5 role txt a b=qhF d a b from rfl]at hM5
 rw[<-show Zt d ql 6 role txt a b=hasE d a b from rfl]at hM6
 simp only[Dcm.row]at hM4 hM5 hM6
 obtain⟨o0,r0,t0,ks0⟩:=k0
 obtain⟨o1,r1,t1,ks1⟩:=k1
 have h4:(c+NB=4)=False:=eq_false (by have:=qL;omega)
 have hk1:([[li o0,li r0,ls t0,.sl 4 (Qry.encL ks0)],[li o1,li r1,ls t1,.sl 4 (Qry.encL ks1)]]:List (List C))[Int.toNat 1]? =some [li o1,li r1,ls t1,.sl 4 (Qry.encL ks1)]:=rfl
 obtain⟨res,qbg⟩: ∃r,r=Zt d ql op role txt a b:=⟨_,rfl⟩
 rw[<-qbg]
 rcases hop with rfl|rfl|rfl|rfl
 all_goals
  simp only[<-qbg]at hM1 hM4 hM5 hM6
  refine vW (N:=74) (rs:=[.tmp 5]) (by kernel_rfl) Tryz.func30 rfl rfl rfl (by simp) ?_
  (repeat'(first|apply kA|apply kB|((first|refine kcc ?_|refine kjj kq40 ?_|apply kD|apply kE);simp +decide only[go_sem,Qry.row,Qry.encL,Qry.enc,v7,qB,h4])|(apply kG;(simp +decide only[go_sem];rfl);all_goals(intro qa;try exact kz qa))))
  refine CallC.eff [c+NB] hr0 rfl (DLeL.of_eq (by simp +decide only[go_sem,Qry.row])) (zu (by simp +decide only[go_sem,qB,h4])) (qbF c (by decide)) ?_
  rintro r H' ⟨rfl,rfl⟩
  simp +decide only[go_sem,v7,qB]
  cases hc:((a.length:Int)==0)
  ·(repeat'(first|apply kA|apply kB|((first|refine kcc ?_|refine kjj kq40 ?_|apply kD|apply kE);simp +decide only[go_sem,qd,nb_z,h4,hc,hk1])|(apply kG;(simp +decide only[go_sem];rfl);all_goals(intro qa;try exact kz qa))))
   refine CallC.eff [c+NB] hr1 rfl (DLeL.of_eq (by simp +decide only[go_sem,Qry.row])) (zu (by simp +decide only[go_sem,qd,qB,nb_z,h4])) (qbF c (by decide)) ?_
   rintro r H' ⟨rfl,rfl⟩
   simp +decide only[go_sem,v7,qB]
   (repeat'(first|apply kA|apply kB|((first|refine kcc ?_|refine kjj kq40 ?_|apply kD|apply kE|refine kx hM1 ?_|refine kx hM4 ?_|refine kx hM5 ?_|refine kx hM6 ?_);simp +decide only[go_sem,qd,Dcm.enc])|(apply kG;(simp +decide only[go_sem];rfl);all_goals(intro qa;try exact kz qa))))
   refine kK (kM (N:=74) (sls:=[(5,dv (.sl 1 (ints res)))]) (bxs:=[(c+NB,[[.fv 30 (qB l d (c+NB))]])]) rfl (by simp +decide only[go_sem]) (by simp +decide only[go_sem,qd,qB,nb_z,h4,Dcm.enc])) ?_
   apply kF;simp +decide only[go_sem]
   rfl
  ·have ha:a= []:=by
    have:(a.length:Int)=0:=by simpa using hc
    exact List.length_eq_zero_iff.1 (by omega)
   rw[qbg,ha,hE]
   (repeat'(first|apply kA|apply kB|((first|refine kcc ?_|refine kjj kq40 ?_|apply kD|apply kE);simp +decide only[go_sem,qd])|(apply kG;(simp +decide only[go_sem];rfl);all_goals(intro qa;try exact kz qa))))
   refine qw 5 (dv (.sl 1 [])) (by simp +decide only[go_sem]) ?_
   refine kK (kM (N:=74) (sls:=[(5,dv (.sl 1 []))]) (bxs:=[(c+NB,[[.fv 30 (qB l d (c+NB))]])]) rfl (by simp +decide only[go_sem]) (by simp +decide only[go_sem,qd,qB,nb_z,h4])) ?_
   apply kF;simp +decide only[go_sem]
   rfl
theorem run_2{l:List Pst}{d:Dcm}(H:SrcH l d)(c:Nat)(role:Int)(txt:ByteArray)(k0 k1:Qry)(hr0:RunC l d (c+NB) k0)(hr1:RunC l d (c+NB) k1):RunC l d c (.mk 2 role txt [k0,k1]):=by
 have hl:=H.hl
 have hel0:=qaY H.W ql k0
 have hel1:=qaY H.W ql k1
 have wa: ∀x∈k0.ev d ql,wfI x:=fun x hx=>Zv H.W H.hi ((zW H.W ql k0).2 x hx)
 have wb: ∀x∈k1.ev d ql,wfI x:=fun x hx=>Zv H.W H.hi ((zW H.W ql k1).2 x hx)
 have he:Qry.ev d ql (.mk 2 role txt [k0,k1])=Zt d ql 2 role txt (k0.ev d ql) (k1.ev d ql):=by rw[Qry.ev];rfl
 have hF: ∀a b,Zt d ql 2 role txt a b=uniI a b:=fun a b=>rfl
 unfold RunC at hr0 hr1 ⊢
 rw[he]
 generalize k0.ev d ql=a at*
 generalize k1.ev d ql=b at*
 have hM:=union_D a b (by omega)
 obtain⟨o0,r0,t0,ks0⟩:=k0
 obtain⟨o1,r1,t1,ks1⟩:=k1
 have h4:(c+NB=4)=False:=eq_false (by have:=qL;omega)
 have hk1:([[li o0,li r0,ls t0,.sl 4 (Qry.encL ks0)],[li o1,li r1,ls t1,.sl 4 (Qry.encL ks1)]]:List (List C))[Int.toNat 1]? =some [li o1,li r1,ls t1,.sl 4 (Qry.encL ks1)]:=rfl
 refine vW (N:=74) (rs:=[.tmp 5]) (by kernel_rfl) Tryz.func30 rfl rfl rfl (by simp) ?_
 (repeat'(first|apply kA|apply kB|((first|refine kcc ?_|refine kjj kq40 ?_|apply kD|apply kE);simp +decide only[go_sem,Qry.row,Qry.encL,Qry.enc,v7,qB,h4])|(apply kG;(simp +decide only[go_sem];rfl);all_goals(intro qa;try exact kz qa))))
 refine CallC.eff [c+NB] hr0 rfl (DLeL.of_eq (by simp +decide only[go_sem,Qry.row])) (zu (by simp +decide only[go_sem,qB,h4])) (qbF c (by decide)) ?_
 rintro r H' ⟨rfl,rfl⟩
 simp +decide only[go_sem,v7,qB]
 cases hc:((a.length:Int)==0)
 ·(repeat'(first|apply kA|apply kB|((first|refine kcc ?_|refine kjj kq40 ?_|apply kD|apply kE);simp +decide only[go_sem,qd,nb_z,h4,hc,hk1])|(apply kG;(simp +decide only[go_sem];rfl);all_goals(intro qa;try exact kz qa))))
  refine CallC.eff [c+NB] hr1 rfl (DLeL.of_eq (by simp +decide only[go_sem,Qry.row])) (zu (by simp +decide only[go_sem,qd,qB,nb_z,h4])) (qbF c (by decide)) ?_
  rintro r H' ⟨rfl,rfl⟩
  rw[hF]
  simp +decide only[go_sem,v7,qB]
  (repeat'(first|apply kA|apply kB|((first|refine kcc ?_|refine kjj kq40 ?_|apply kD|apply kE|refine kx hM ?_);simp +decide only[go_sem,qd,Dcm.enc])|(apply kG;(simp +decide only[go_sem];rfl);all_goals(intro qa;try exact kz qa))))
  refine kK (kM (N:=74) (sls:=[(5,dv (.sl 1 (ints (uniI a b))))]) (bxs:=[(c+NB,[[.fv 30 (qB l d (c+NB))]])]) rfl (by simp +decide only[go_sem]) (by simp +decide only[go_sem,qd,qB,nb_z,h4,Dcm.enc])) ?_
  apply kF;simp +decide only[go_sem]
  rfl
 ·(repeat'(first|apply kA|apply kB|((first|refine kcc ?_|refine kjj kq40 ?_|apply kD|apply kE);simp +decide only[go_sem,qd,nb_z,h4,hc,hk1])|(apply kG;(simp +decide only[go_sem];rfl);all_goals(intro qa;try exact kz qa))))
  refine CallC.eff [c+NB] hr1 rfl (DLeL.of_eq (by simp +decide only[go_sem,Qry.row])) (zu (by simp +decide only[go_sem,qd,qB,nb_z,h4])) (qbF c (by decide)) ?_
  rintro r H' ⟨rfl,rfl⟩
  rw[hF]
  simp +decide only[go_sem,v7,qB]
  (repeat'(first|apply kA|apply kB|((first|refine kcc ?_|refine kjj kq40 ?_|apply kD|apply kE|refine kx hM ?_);simp +decide only[go_sem,qd,Dcm.enc])|(apply kG;(simp +decide only[go_sem];rfl);all_goals(intro qa;try exact kz qa))))
  refine kK (kM (N:=74) (sls:=[(5,dv (.sl 1 (ints (uniI a b))))]) (bxs:=[(c+NB,[[.fv 30 (qB l d (c+NB))]])]) rfl (by simp +decide only[go_sem]) (by simp +decide only[go_sem,qd,qB,nb_z,h4,Dcm.enc])) ?_
  apply kF;simp +decide only[go_sem]
  rfl
end Go.Proofs.YtaaodllggdjhiaaGreatDoor
namespace Go.Proofs.YtaaodllggdjhiaaGreatDoor
open Go.Dl S
attribute [local irreducible] DW DCalls ECalls qo wk IW
theorem qmq{l:List Pst}{d:Dcm}(H:SrcH l d): ∀(n:Nat) (q:Qry),q.nodes<=n->q.ok okT=true->∀c,RunC l d c q
 | 0,q,h,_=>by have:=QR q;omega
 | n+1,.mk op role txt kids,h,ho=>fun c=>by
  rw[Qry.nodes]at h
  rw[Qry.ok]at ho
  simp only[Bool.and_eq_true,decide_eq_true_eq]at ho
  obtain⟨⟨⟨⟨⟨h0,h6⟩,hk⟩,hr⟩,hp⟩,hok⟩:=ho
  have hkid: ∀q∈kids,∀c,RunC l d c q:=fun q hq c=>qmq H n q (by have:=Qg hq;omega) (qh5 hok q hq) c
  by_cases e0:op=0
  ·subst e0
   simp at hr hp
   exact qpz H c role txt kids hr.1 hr.2 hp
  by_cases e3:op=3
  ·subst e3
   simp at hr
   obtain⟨k0,rfl⟩: ∃k0,kids= [k0]:=List.length_eq_one_iff.1 (by rw[hk];rfl)
   exact run_not H c role txt k0 hr.1 hr.2 (hkid k0 (by simp) _)
  have h2:kids.length=2:=by rw[hk,kidsN,if_neg e0,if_neg e3]
  obtain⟨k0,k1,rfl⟩: ∃k0 k1,kids= [k0,k1]:=by
   rcases kids with _|⟨k0,_|⟨k1,_|⟨k2,r⟩⟩⟩<;>simp at h2
   exact⟨k0,k1,rfl⟩
  have a:=hkid k0 (by simp) (c+NB)
  have b:=hkid k1 (by simp) (c+NB)
  have:op=1\/op=2\/op=4\/op=5\/op=6:=by omega
  rcases this with rfl|rfl|rfl|rfl|rfl
  ·exact qpy H c (by omega) role txt k0 k1 a b
  ·exact run_2 H c role txt k0 k1 a b
  ·exact qpy H c (by omega) role txt k0 k1 a b
  ·exact qpy H c (by omega) role txt k0 k1 a b
  ·exact qpy H c (by omega) role txt k0 k1 a b
theorem qgd{l:List Pst}{d:Dcm}{bx:Mem}(h:bx 7=some [[.fv 30 (qB l d 7)]]):
  ∀k r,v7 l d (7+NB) k=some r->qJ bx [7] k=some r:=fun k r hk=>by
 by_cases e:k=7+NB
 ·subst e
  simp only[go_sem,v7,qB]at hk
  simp only[go_sem,qJ,h,qB]
  exact hk
 ·simp only[go_sem,v7,e]at hk
theorem qcG{l:List Pst}{d:Dcm}(H:SrcH l d)(q:Qry)(ho:q.ok okT=true):DCalls Tryz.prog 11 [.agg [.c (.sl 3 (l.map Pst.enc))],.agg d.row,.agg q.row] (dv (.sl 1 (ints (q.ev d ql)))):=by
 have hr:=qmq H q.nodes q (wv _) ho 7
 unfold RunC at hr
 generalize q.ev d ql=a at*
 obtain⟨op,role,txt,kids⟩:=q
 rw[Dcm.row,Qry.row]
 rw[Qry.row]at hr
 refine kd (N:=12) (rs:=[.tmp 6]) Tryz.func11 ?_
 repeat first|apply kA|apply kB|(first|refine kcc ?_|apply kD|apply kE);simp only[go_sem]
 refine CallC.frz 3 [.sl 3 (l.map Pst.enc)] (by simp) (by simp only[go_sem]) ?_
 refine CallC.frz 4 d.enc (by simp[Dcm.enc]) (by simp only[go_sem,Dcm.enc]) ?_
 simp only[go_sem]
 refine CallC.eff [7] hr rfl (DLeL.of_eq (by simp only[go_sem,Dcm.enc])) (qgd (by simp only[go_sem,qB,Dcm.enc])) (by constructor<;>simp[mid]) ?_
 rintro r H' ⟨rfl,rfl⟩
 simp only[go_sem,v7,qB,Dcm.enc]
 repeat' first|(first|refine kcc ?_|apply kU|apply kF);simp only[go_sem]|apply kh<;>intro qa
end Go.Proofs.YtaaodllggdjhiaaGreatDoor
namespace Go.Proofs.YtaaodllggdjhiaaGreatDoor
abbrev kpm38:List (Nat×Go.Dl.Mode):=[(0,.light),(1,.look []),(2,.step),(3,.step)]
abbrev kq41:Nat->List (Nat×Go.Dl.Mode):=fun n=>match n with|6=>kpm38|_=>[]
end Go.Proofs.YtaaodllggdjhiaaGreatDoor
namespace Go.Proofs.YtaaodllggdjhiaaGreatDoor
open Go.Dl S
attribute [local irreducible] DW DCalls ECalls qo wk IW
theorem qlt{P:Program}{f:FuncId}{ds:List D}{r r':D}(hl:DLe r r')(hc:DCalls P f ds r):DCalls P f ds r':=by
 unfold DCalls at hc ⊢
 exact⟨hc.1,fun w K vs hk hs hv=>(hc.2 w K vs hk hs hv).mono fun e w' ⟨v,E',h1,h2,h3⟩=>⟨v,E',h1,h2,hl _ _ _ h3⟩⟩
inductive TLeX:List T->List T->Prop where
 | nil:TLeX [] []
 | same (t:T) {l l':List T} (h:TLeX l l'):TLeX (t::l) (t::l')
 | ex (sz:Nat) (xs:List (List C)) {l l':List T} (h:TLeX l l'):TLeX (.ex sz xs::l) (.c (.sl sz xs)::l')
theorem TLeX.get{l l':List T}(h:TLeX l l'):l.length=l'.length/\∀(j:Nat) t',l'[j]? =some t'->∃t,l[j]? =some t/\∀w E v,VT w E t v->VT w E t' v:=by
 induction h with
 | nil=>exact⟨rfl,fun j t h=>by simp at h⟩
 | same t h ih=>
  refine⟨by simp[ih.1],fun j t' ht=>?_⟩
  cases j with
  | zero=>simp at ht;subst ht;exact⟨_,rfl,fun w E v h=>h⟩
  | succ j=>simpa using ih.2 j t' (by simpa using ht)
 | ex sz xs h ih=>
  refine⟨by simp[ih.1],fun j t' ht=>?_⟩
  cases j with
  | zero=>
   simp at ht;subst ht
   refine⟨_,rfl,fun w E v h=>?_⟩
   cases h with
   | ex _ _ _ h _=>exact .c _ _ h
  | succ j=>simpa using ih.2 j t' (by simpa using ht)
theorem qjX{l l':List T}(h:TLeX l l'):DLe (.agg l) (.agg l'):=fun w E v hv=>by
 cases hv with
 | agg _ vs hl hr=>
  refine .agg _ _ (by rw[hl,h.get.1]) fun j t' v ht hv=>?_
  obtain⟨t,h1,h2⟩:=h.get.2 j t' ht
  exact h2 _ _ _ (hr j t v h1 hv)
theorem qqI{a b a' b':D}(h1:DLe a a')(h2:DLe b b'):DLe (.tup [a,b]) (.tup [a',b']):=fun w E v hv=>by
 cases hv with
 | tup _ vs hl hr=>
  refine .tup _ _ hl fun j t' v ht hv=>?_
  match j with
  | 0=>simp at ht;subst ht;exact h1 _ _ _ (hr 0 _ v rfl hv)
  | 1=>simp at ht;subst ht;exact h2 _ _ _ (hr 1 _ v rfl hv)
  | j+2=>simp at ht
def smpR:Rgt:=⟨[⟨1,⟨#[65,110,97]⟩,true⟩],[],[⟨1,0,10,2⟩],[⟨5,0,100,3,[],0⟩]⟩
def smpD:Dcm:=⟨⟨5,⟨#[111,110,101]⟩,1000,1,[1]⟩,[⟨⟨#[116,101,120,116]⟩,0,1,-1⟩,⟨⟨#[119,111,114,100]⟩,2,2,0⟩],[⟨1,0,0,0,900,0,⟨#[98,97,32,109,105]⟩⟩,⟨2,1,1,0,400,0,⟨#[98,97]⟩⟩,⟨3,1,1,400,900,0,⟨#[109,105]⟩⟩]⟩
def qpq:List T:=[.ex 3 (smpR.people.map Pers.enc),.ex 4 [],.ex 4 (smpR.cons.map Cons.enc),.ex 6 (smpR.rules.map Rle.enc)]
def qpr:List T:=[.c (li 5),.c (ls ⟨#[111,110,101]⟩),.c (li 1000),.c (li 1),.ex 1 [[li 1]],.ex 4 (smpD.tiers.map Tir.enc),.ex 7 (smpD.notes.map Nte.enc)]
theorem smp0_D:DCalls Tryz.prog 25 [] (.tup [.agg qpq,.agg qpr]):=by
 refine kd (N:=31) (rs:=[.cell 0 27,.cell 1 34]) Tryz.func25 ?_
 repeat' first|(first|refine kcc ?_|apply kU);simp +decide only[go_sem]|apply kh<;>intro qa
 refine kK (kM (N:=31) (sls:=[(0,.one (.bx 0 4 0 0)),(1,.one (.bx 1 7 0 0)),(2,.one (.bx 2 7 0 0)),(3,.one (.bx 3 4 0 0))]) (bxs:=[(0,[[.ex 3 [],.ex 4 [],.ex 4 [],.ex 6 []]]),(1,[[.c (li 0),.c (ls ⟨#[]⟩),.c (li 0),.c (li 0),.ex 1 [],.ex 4 [],.ex 7 []]]),(2,[qpr]),(3,[qpq])]) rfl (by simp +decide only[go_sem]) (by simp +decide only[go_sem,qpr,qpq,smpD,smpR,Pers.enc,Cons.enc,Rle.enc,Tir.enc,Nte.enc,wt,wn])) ?_
 apply Zh (id:=6) (N:=31) [] [[],[],[0,0],[1,2,0,1,2]] (.two 0 (.two 1 (.run [2,3] .leaf) 2 (.run [1,3] .leaf)) 1 (.run [0,2,3] .leaf));kernel_rfl;rfl;kernel_rfl;kernel_rfl
 simp only[wt,wn]
 simp +decide only[go_sem,qpr,qpq]
 refine⟨⟨?_,?_⟩,?_⟩
 ·repeat' first|(first|refine kcc ?_|refine kjj kq41 ?_|apply kU|apply kF);simp +decide only[go_sem]|apply kh<;>intro qa
 ·repeat' first|(first|refine kcc ?_|refine kjj kq41 ?_|apply kU|apply kF);simp +decide only[go_sem]|apply kh<;>intro qa
 ·repeat' first|(first|refine kcc ?_|refine kjj kq41 ?_|apply kU|apply kF);simp +decide only[go_sem]|apply kh<;>intro qa
theorem smp_D:DCalls Tryz.prog 25 [] (.tup [.agg smpR.row,.agg smpD.row]):=
 qlt (qqI (qjX (.ex _ _ (.ex _ _ (.ex _ _ (.ex _ _ .nil))))) (qjX (.same _ (.same _ (.same _ (.same _ (.ex _ _ (.ex _ _ (.ex _ _ .nil))))))))) smp0_D
theorem total_D(hU:qO [⟨100,1000⟩]= [⟨100,1000⟩]):DCalls Tryz.prog 26 [dv (.sl 2 (spns [⟨100,1000⟩]))] (dv (li 900)):=by
 have qK:=kmax
 have hu:=qaD [⟨100,1000⟩] (by decide) (by decide)
 rw[hU]at hu
 have hw9:IntKind.i64.wrap (IntKind.i64.wrap (1000 - 100))=900:=by decide
 have hw1:IntKind.i64.wrap 1=1:=by decide
 refine kd (N:=22) (rs:=[.tmp 2]) Tryz.func26 ?_
 repeat' first|(first|refine kcc ?_|refine kx hu ?_|apply kU);simp +decide only[go_sem]|apply kh<;>intro qa
 refine qj [(⟨100,1000⟩:Spn)] (fun k=>kn 22 [(3,dv (li (if k=0 then 0 else 900))),(7,dv (.sl 2 (spns [⟨100,1000⟩]))),(8,dv (li 1)),(9,dv (li k))] qc) (by decide) kl ?_ ?_
 ·intro k y hy hk hm htk hlt hw
  obtain rfl:k=0:=by simp at hk;omega
  obtain rfl:y=⟨100,1000⟩:=by simpa using hm
  repeat' first|(first|refine kcc ?_|apply kU);simp +decide only[go_sem,Spn.enc]|apply kh<;>intro qa
  exact kL rfl (by simp +decide only[go_sem,hw9,hw1]) (by simp[qc])
 ·intro hlt
  repeat' first|(first|refine kcc ?_|apply kU|apply kF);simp +decide only[go_sem]|apply kh<;>intro qa
end Go.Proofs.YtaaodllggdjhiaaGreatDoor
namespace Go.Proofs.YtaaodllggdjhiaaGreatDoor
abbrev kq42:Nat->List (Nat×Go.Dl.Mode):=fun n=>match n with|5=>kpm28|_=>[(99,.step)]
end Go.Proofs.YtaaodllggdjhiaaGreatDoor
namespace Go.Proofs.YtaaodllggdjhiaaGreatDoor
open Go.Dl S
attribute [local irreducible] DW DCalls ECalls qo wk IW
theorem txB_put{B:Nat}{l:List Pst}(h: ∀p∈l,p.txt.size<=B)(role:Int){txt:ByteArray}(ht:txt.size<=B)(id:Int): ∀p∈putP l role txt id,p.txt.size<=B:=by
 intro p hp
 unfold putP at hp
 split at hp
 ·exact h p hp
 split at hp
 ·rename_i q hq
  split at hp
  ·rcases List.mem_or_eq_of_mem_set hp with hp|hp
   ·exact h p hp
   ·rw[hp];exact h q (List.mem_of_getElem? hq)
  ·rcases wo.1 hp with hp|hp
   ·exact h p (yt hp)
   ·rcases List.mem_cons.1 hp with hp|hp
    ·rw[hp];exact ht
    ·exact h p (ym hp)
 ·rcases wo.1 hp with hp|hp
  ·exact h p hp
  ·simp at hp;rw[hp];exact ht
theorem qpb{B:Nat}{l:List Pst}(h: ∀p∈l,p.txt.size<=B)(role:Int){txt:ByteArray}(ht:txt.size<=B)(id:Int): ∀p∈qbl l role txt id,p.txt.size<=B:=by
 intro p hp
 unfold qbl at hp
 split at hp
 ·split at hp
  ·rcases wo.1 hp with hp|hp
   ·rcases wo.1 hp with hp|hp
    ·exact h p (yt hp)
    ·split at hp
     ·simp at hp;rw[hp];exact ht
     ·cases hp
   ·exact h p (ym hp)
  ·exact h p hp
 ·exact h p hp
theorem qcw{B:Nat}(ts:List Tir): ∀(l:List Nte) {p:List Pst},(∀n∈l,n.txt.size<=B)->(∀q∈p,q.txt.size<=B)->∀q∈vO ts l p,q.txt.size<=B
 | [],p,_,h=>h
 | x::l,p,hl,h=>qcw ts l (fun n hn=>hl n (by simp[hn])) (txB_put h (zU ts x) (hl x (by simp)) x.id)
theorem qi7{B:Nat}(ts:List Tir): ∀(l:List Nte) {p:List Pst},(∀n∈l,n.txt.size<=B)->(∀q∈p,q.txt.size<=B)->∀q∈qbD ts l p,q.txt.size<=B
 | [],p,_,h=>h
 | x::l,p,hl,h=>qi7 ts l (fun n hn=>hl n (by simp[hn])) (qpb h (zU ts x) (hl x (by simp)) x.id)
def idxU(d x:Dcm):List Pst:=vO x.tiers x.notes (qbD d.tiers d.notes (vO d.tiers d.notes []))
theorem qrz{d:Dcm}(hd:d.notes.length<=19):PsB 1000 (vO d.tiers d.notes []):=(PsB.build d.tiers d.notes qh2).mono (by omega)
theorem qnU{d x:Dcm}(V:WfD x)(hl:x.notes.length<=19)(hd:d.notes.length<=19)(ht:x.tiers.length<=100000)(hi:IdB x)(td: ∀n∈d.notes,n.txt.size<=1000000)(tx: ∀n∈x.notes,n.txt.size<=1000000):SrcH (idxU d x) x where
 W:=V
 hl:=hl
 ht:=ht
 hi:=hi
 ix:=ql3 d.tiers x.tiers d.notes x.notes
 ps:=(PsB.build x.tiers x.notes (PsB.drop d.tiers d.notes (PsB.build d.tiers d.notes qh2))).mono (by omega)
 txt:=qcw x.tiers x.notes tx (qi7 d.tiers d.notes td (qcw d.tiers d.notes td (by simp)))
def smpV:Dcm:={ smpD with notes:=[⟨1,0,0,0,900,0,⟨#[]⟩⟩,⟨3,1,1,400,900,0,⟨#[109,105]⟩⟩] }
def smpS:List Spn:=[⟨100,1000⟩]
def star:ByteArray:=⟨#[42]⟩
theorem qmn:Z7 smpR smpD.rc 0 10=smpS:=by decide +kernel
theorem qf3:qO smpS=smpS:=by decide +kernel
theorem qd4:WfD smpD where
 up:=by simp[smpD]
 pos:=by simp[smpD]
 tpar i t h:=by
  match i with
  | 0=>simp[smpD]at h;subst h;simp
  | 1=>simp[smpD]at h;subst h;simp
  | i+2=>simp[smpD]at h
 nt n hn:=by
  simp[smpD]at hn
  rcases hn with rfl|rfl|rfl
  ·exact⟨_,rfl,by simp[smpD,algK]⟩
  ·exact⟨_,rfl,by simp[smpD,algK]⟩
  ·exact⟨_,rfl,by simp[smpD,algK]⟩
 sib a ha b hb h1 h2 h3 h4:=by
  simp[smpD]at ha hb
  rcases ha with rfl|rfl|rfl<;>rcases hb with rfl|rfl|rfl<;>simp_all
theorem qjd:qah smpD (Zx smpD smpS)=smpV:=by
 have h:=qfQ qd4 (Zx smpD smpS)
 have h2:((smpD.notes.filter fun n=>inL (Qi smpD (Zx smpD smpS) smpD.notes) n.id).map (vr (Zx smpD smpS)))=smpV.notes:=by decide +kernel
 rw[h]at h2
 show({ smpD with notes:=(qah smpD (Zx smpD smpS)).notes }:Dcm)=smpV
 rw[h2];rfl
theorem smp_ev:(Qry.mk 0 2 star []).ev smpV ql= [3]:=by decide +kernel
theorem qmm:WfD smpV:=by rw[<-qjd];exact qi4 qd4 _
theorem smp_ids:IdB smpD:=by unfold IdB;simp[smpD]
theorem qpp:IdB smpV:=by unfold IdB;simp[smpV]
theorem smp_ok:(Qry.mk 0 2 star []).ok okT=true:=by decide +kernel
theorem smp_rd:RgtD smpR where
 grp:=⟨by simp[smpR],by simp[smpR],by simp[smpR]⟩
 lvl:=by simp[smpR]
theorem smp_rs:RgtS smpR where
 ppl:=by simp[smpR];decide
 grp:=⟨by simp[smpR],by simp[smpR],by simp[smpR]⟩
 cons:=by simp[smpR]
 rul:=by simp[smpR]
theorem smp_src:SrcH (idxU smpD smpV) smpV:=qnU qmm (by decide) (by decide) (by decide) qpp (by simp[smpD];decide) (by simp[smpV];decide)
theorem alive_D:DCalls Tryz.prog 8 [] (dv (lb true)):=by
 have hsp:=qjb smpR smpD.rc 0 10 smp_rd smp_rs (by decide) (by decide) (by decide)
 rw[qmn]at hsp
 have hvw:=qrh smpD qd4 (by decide) smp_ids smpS (Zx smpD smpS) (fun id=>qmo smpD qd4 smpS id (by decide) (by decide) (by decide) (by decide) (by rw[qf3];decide))
 rw[qjd]at hvw
 have hb:=qox smpD qd4 (by decide)
 have hu:=qi5 (vO smpD.tiers smpD.notes []) smpD smpV qd4 qmm (by decide) (by decide) (qrz (by decide))
 have hr:=qcG smp_src (.mk 0 2 star []) smp_ok
 rw[smp_ev]at hr
 have hs:=smp_D
 have ht:=total_D qf3
 change DCalls _ _ _ (.agg [.c (.sl 3 ((idxU smpD smpV).map Pst.enc))])at hu
 have hi:(smpD.notes.map Nte.enc).length=3:=rfl
 have hvn:(smpV.notes.map Nte.enc).length=2:=rfl
 have e1:smpR.row= [.c (.sl 3 (smpR.people.map Pers.enc)),.c (.sl 4 (smpR.groups.map Grp.enc)),.c (.sl 4 (smpR.cons.map Cons.enc)),.c (.sl 6 (smpR.rules.map Rle.enc))]:=rfl
 have e2:smpD.row=smpD.rc.row++[.c (.sl 4 (smpD.tiers.map Tir.enc)),.c (.sl 7 (smpD.notes.map Nte.enc))]:=rfl
 have e3:smpV.row=smpD.rc.row++[.c (.sl 4 (smpD.tiers.map Tir.enc)),.c (.sl 7 (smpV.notes.map Nte.enc))]:=rfl
 rw[e1,e2]at hs
 rw[e1]at hsp
 rw[e2,e3]at hvw
 rw[e2]at hb
 rw[e2,e3]at hu
 rw[e3]at hr
 simp only[Rcd.row,wH,wE]at hs hsp hvw hb hu hr
 generalize (vO smpD.tiers smpD.notes []).map Pst.enc=ib at*
 generalize (idxU smpD smpV).map Pst.enc=iu at*
 generalize smpR.people.map Pers.enc=a1 at*
 generalize smpR.groups.map Grp.enc=a2 at*
 generalize smpR.cons.map Cons.enc=a3 at*
 generalize smpR.rules.map Rle.enc=a4 at*
 generalize smpD.tiers.map Tir.enc=dt at*
 generalize smpD.notes.map Nte.enc=dn at*
 generalize smpV.notes.map Nte.enc=vn at*
 simp only[smpS,smpD,star,Qry.row,Qry.encL]at hs hsp hvw hb hu hr ht
 refine kd (N:=60) (rs:=[.tmp 0]) Tryz.func8 ?_
 repeat' first|(first|refine kcc ?_|refine kjj kq42 ?_|refine kx hs ?_|refine kx hsp ?_|refine kx hvw ?_|refine kx hb ?_|refine kx hu ?_|refine kx hr ?_|refine kx ht ?_|apply kU|apply kF);simp +decide only[go_sem,hvn,Spn.enc]|apply kh<;>intro qa
end Go.Proofs.YtaaodllggdjhiaaGreatDoor
namespace Go.Proofs.YtaaodllggdjhiaaGreatDoor
abbrev kpm39:List (Nat×Go.Dl.Mode):=[(0,.light),(1,.light),(2,.light),(3,.light),(4,.light),(5,.light),(6,.light),(7,.light),(8,.light),(9,.light),(10,.light),(11,.light),(12,.light),(13,.light),(14,.light),(15,.step),(16,.light),(17,.light),(18,.light)]
abbrev kq43:Nat->List (Nat×Go.Dl.Mode):=fun n=>match n with|5=>kpm28|13=>kpm39|_=>[]
end Go.Proofs.YtaaodllggdjhiaaGreatDoor
namespace Go.Proofs.YtaaodllggdjhiaaGreatDoor
open Go.Dl S
attribute [local irreducible] DW DCalls ECalls qo wk IW
structure FndS(a:Rgt)(d:Dcm)(q:Qry):Prop where
 tn: ∀t∈d.tiers,t.name.size<=1048576
 nm:d.rc.name.size<=1048576
 sp:d.rc.sp.length<=1048576
 rs:RgtS a
 qs:q.size<=1048576
 qn:q.nodes<=100000000
theorem qo6(d:Dcm)(seen:Int->Bool):(qah d seen).notes.length<=d.notes.length:=by
 show((Z5 d seen).map (vr seen)).length<=_
 rw[we];exact wC _ _
theorem view_of{d:Dcm}{seen:Int->Bool}{n:Nte}(h:n∈(qah d seen).notes): ∃m∈d.notes,n.id=m.id/\n.txt.size<=m.txt.size/\(n.txt≠⟨#[]⟩->seen n.id=true):=by
 have h:n∈(Z5 d seen).map (vr seen):=h
 obtain⟨m,hm,rfl⟩:=List.mem_map.1 h
 refine⟨m,(List.mem_filter.1 hm).1,?_⟩
 unfold vr
 split
 ·rename_i hs
  exact⟨rfl,wv _,fun _=>hs⟩
 ·exact⟨rfl,Nat.zero_le _,fun h=>absurd rfl h⟩
theorem qgW: ∀(l:List Spn) (t:Int),(Zs t l).length=l.length+1
 | [],_=>rfl
 | s::l,t=>by rw[Zs,wz,qgW l,wz]
theorem qkm(a:Rgt)(r:Rcd)(p day:Int)(h:a.rules.length<=10):(Z7 a r p day).length<=12:=by
 unfold Z7 spG
 split
 ·have h1:=vS [(⟨0,r.len⟩:Spn)]
  have h2:=vS ((qgP a r.id p day).map Rle.span)
  have h3:=vS (Zs 0 (qO ((qgP a r.id p day).map Rle.span)))
  have h4:=qdv _ (qO [(⟨0,r.len⟩:Spn)]) (qO (Zs 0 (qO ((qgP a r.id p day).map Rle.span)))) (wv _)
  have h5:(qgP a r.id p day).length<=a.rules.length:=wC _ _
  rw[qgW]at h3
  rw[we]at h2
  simp only[wz,wR]at h1
  unfold qeh qlB
  omega
 ·simp
theorem qkl(a:Rgt)(r:Rcd)(p day:Int):(qbP a r p day).length<=1+a.rules.length:=by
 unfold qbP spR
 split
 ·have h:=qeM (qlj a r.id p day) [⟨0,r.len⟩]
  have h5:(qlj a r.id p day).length<=a.rules.length:=wC _ _
  simp only[wz,wR]at h
  exact wD h (by omega)
 ·simp
theorem found_D(a:Rgt)(d:Dcm)(p day:Int)(q:Qry)(H:FndS a d q):DCalls Tryz.prog 3 [.agg a.row,.agg d.row,.agg [.c (li p),.c (li day)],.agg q.row] (dv (lb true)):=by
 have qK:=kmax
 have hL:=qkI d H.tn
 have hR:=qkH [d.rc] a (by simpa using H.nm) (by simpa using H.sp) H.rs
 have hN:=qeY q.nodes q (wv _) H.qn
 have hC:=qkN q H.qs H.qn
 have hA:=alive_D
 obtain⟨op,role,txt,kids,hq⟩: ∃op role txt kids,q.row= [.c (li op),.c (li role),.c (ls txt),.c (.sl 4 (Qry.encL kids))]:=by obtain⟨op,role,txt,kids⟩:=q;exact⟨_,_,_,_,rfl⟩
 rw[hq]at hN hC ⊢
 simp only[wt,wn,Rcd.enc]at hR
 simp only[Dcm.row,Rgt.row]at hL hR
 refine kd (N:=108) (rs:=[.tmp 8]) Tryz.func3 ?_
 repeat' first|(first|refine kcc ?_|apply kU);simp +decide only[go_sem,Dcm.row,Rgt.row]|apply kh<;>intro qa|((first|apply kH|apply kI)<;>(intro qa;first|(exact absurd qa (by decide))|(simp +decide only[go_sem,qa,Dcm.row,Rgt.row])))
 refine CallC.nd (caps:=[]) (hL) (by simp +decide only[go_sem]) (kP (by simp +decide only[go_sem])) ?_
 rintro _ ⟨b1,rfl,hb1⟩
 simp +decide only[go_sem]
 cases t3: !b1
 rotate_left
 ·repeat' first|(first|refine kcc ?_|refine kx hA ?_|apply kU|apply kF);simp +decide only[go_sem]|apply kh<;>intro qa|((first|apply kH|apply kI)<;>(intro qa;first|(exact absurd qa (by decide))|(simp +decide only[go_sem])))
 obtain⟨hDoc,hnl,htl,hspl⟩:=hb1 (by simpa using t3)
 repeat' first|(first|refine kcc ?_|apply kU);simp +decide only[go_sem,t3]|apply kh<;>intro qa|((first|apply kH|apply kI)<;>(intro qa;first|(exact absurd qa (by decide))|(simp +decide only[go_sem])))
 refine CallC.nd (caps:=[]) (hR) (by simp +decide only[go_sem]) (kP (by simp +decide only[go_sem])) ?_
 rintro _ ⟨b2,rfl,hb2⟩
 simp +decide only[go_sem]
 cases t4: !b2
 rotate_left
 ·repeat' first|(first|refine kcc ?_|refine kx hA ?_|apply kU|apply kF);simp +decide only[go_sem]|apply kh<;>intro qa|((first|apply kH|apply kI)<;>(intro qa;first|(exact absurd qa (by decide))|(simp +decide only[go_sem])))
 obtain⟨hRD,hpl,hgl,hcl,hrl⟩:=hb2 (by simpa using t4)
 cases t1:decide ((6:Int)<(q.nodes:Int))
 rotate_left
 ·repeat' first|(first|refine kcc ?_|refine kx hN ?_|refine kx hA ?_|apply kU|apply kF);simp +decide only[go_sem,t1]|apply kh<;>intro qa|((first|apply kH|apply kI)<;>(intro qa;first|(exact absurd qa (by decide))|(simp +decide only[go_sem])))
 repeat' first|(first|refine kcc ?_|refine kx hN ?_|apply kU);simp +decide only[go_sem,t1]|apply kh<;>intro qa|((first|apply kH|apply kI)<;>(intro qa;first|(exact absurd qa (by decide))|(simp +decide only[go_sem])))
 refine CallC.nd (caps:=[]) (hC) (by simp +decide only[go_sem]) (kP (by simp +decide only[go_sem])) ?_
 rintro _ ⟨e,rfl,he⟩
 simp +decide only[go_sem]
 cases t2:e !=0
 rotate_left
 ·repeat' first|(first|refine kcc ?_|refine kx hA ?_|apply kU|apply kF);simp +decide only[go_sem]|apply kh<;>intro qa|((first|apply kH|apply kI)<;>(intro qa;first|(exact absurd qa (by decide))|(simp +decide only[go_sem,qa,t2])))
 have hok:=he (by simpa using t2)
 repeat' first|(first|refine kcc ?_|apply kU);simp +decide only[go_sem]|apply kh<;>intro qa|((first|apply kH|apply kI)<;>(intro qa;first|(exact absurd qa (by decide))|(simp +decide only[go_sem,qa,t2])))
 obtain⟨W,hu⟩:=chk_wf hDoc.chk
 have hB:IdB d:=hDoc.ids
 have hsp:=qjb a d.rc p day hRD H.rs (by omega) H.sp hrl
 have hsl:=qkm a d.rc p day hrl
 have hrs:=qkB a d.rc p day hRD H.rs (by omega) H.sp (by omega)
 have hrsl:=qkl a d.rc p day
 have qlQ:=seen_eq a hRD.lvl d p day
 generalize Z7 a d.rc p day=S at*
 generalize qbP a d.rc p day=R at*
 have hvw:=qrh d W (by omega) hB S (Zx d S) (fun id=>qmo d W S id (by omega) (by omega) (by omega) (wD (wC _ _) hsl) (wD (vS S) (by omega)))
 have hrv:=rView_D d W R (by omega) (by omega) (by omega)
 have hrn:=fun id=>qhX d W R id (by omega) (by omega) (by omega)
 rw[<-qlQ]at hrv
 simp only[<-qlQ]at hrn
 have V:=qi4 W (Zx d S)
 have hvl:=qo6 d (Zx d S)
 have hvo:=fun n (h:n∈(qah d (Zx d S)).notes)=>view_of h
 have hvt:(qah d (Zx d S)).tiers=d.tiers:=rfl
 have hvr:(qah d (Zx d S)).rc=d.rc:=rfl
 generalize Zx d S=seen at*
 generalize qah d seen=x at*
 have hBx:IdB x:=fun n hn=>by
  obtain⟨m,hm,e,_,_⟩:=hvo n hn
  rw[e];exact hB m hm
 have htx: ∀n∈x.notes,n.txt.size<=200:=fun n hn=>by
  obtain⟨m,hm,_,e,_⟩:=hvo n hn
  exact wD e (hDoc.txt m hm)
 have hux:qdH x.tiers:=by rw[hvt];exact hu
 have hxl:x.notes.length<=14:=by omega
 have hxt:x.tiers.length<=6:=by rw[hvt];omega
 have hbd:=qox d W (by omega)
 have hup:=qi5 (vO d.tiers d.notes []) d x W V (by omega) (by omega) (qrz (by omega))
 have qfK:=qnU (d:=d) V (by omega) (by omega) (by omega) hBx (fun n hn=>wD (hDoc.txt n hn) (by omega)) (fun n hn=>wD (htx n hn) (by omega))
 change DCalls _ _ _ (.agg [.c (.sl 3 ((idxU d x).map Pst.enc))])at hup
 have hru:=qcG qfK q hok
 have hev:=qmP x V hux (fun n hn=>wD (htx n hn) (by omega)) (by omega) (by omega) q.nodes q (wv _) hok
 have hel:=qaY V ql q
 have hen:=(zW V ql q).2
 have hsm:=qmH x (by omega) (by omega) (by rw[hvr];omega)
 have hs7:=qpw (q.ev x ql) (by omega)
 have qby:=fun id=>vP x id (by omega)
 rw[hq]at hru hev
 generalize q.ev x ql=l at*
 generalize (idxU d x).map Pst.enc=iu at*
 generalize (vO d.tiers d.notes []).map Pst.enc=ib at*
 generalize Qry.encL kids=ks at*
 simp only[Dcm.row,Rgt.row,Rcd.row,Nte.row]at hsp hrs hvw hrv hrn hbd hup hru hev hsm qby
 repeat' first|(first|refine kcc ?_|refine kjj kq42 ?_|refine kx hsp ?_|refine kx hvw ?_|refine kx hbd ?_|refine kx hup ?_|refine kx hru ?_|apply kU);simp +decide only[go_sem]|apply kh<;>intro qa|((first|apply kH|apply kI)<;>(intro qa;first|(exact absurd qa (by decide))|(simp +decide only[go_sem,qa])))
 have haS:a.row= [.c (.sl 3 (a.people.map Pers.enc)),.c (.sl 4 (a.groups.map Grp.enc)),.c (.sl 4 (a.cons.map Cons.enc)),.c (.sl 6 (a.rules.map Rle.enc))]:=rfl
 refine kK (kM (N:=108) (sls:=[(4,.one (.bx 4 4 0 0)),(5,.one (.bx 5 7 0 0)),(6,.one (.bx 6 2 0 0)),(7,.one (.bx 7 4 0 0)),(10,.one (.bx 10 7 0 0)),(11,dv (.sl 1 (ints l)))]) (bxs:=[(4,[a.row]),(5,[d.row]),(6,[[.c (li p),.c (li day)]]),(7,[[.c (li op),.c (li role),.c (ls txt),.c (.sl 4 ks)]]),(10,[x.row])]) rfl (by simp +decide only[go_sem]) (by simp +decide only[go_sem,Dcm.row,Rgt.row])) ?_
 refine vq (fun _:Unit=>kn 108 [(4,.one (.bx 4 4 0 0)),(5,.one (.bx 5 7 0 0)),(6,.one (.bx 6 2 0 0)),(7,.one (.bx 7 4 0 0)),(10,.one (.bx 10 7 0 0)),(11,dv (.sl 1 (ints l))),(12,.one (.bx 12 7 0 0))] (ml [(4,[a.row]),(5,[d.row]),(6,[[.c (li p),.c (li day)]]),(7,[[.c (li op),.c (li role),.c (ls txt),.c (.sl 4 ks)]]),(10,[x.row]),(12,[x.row])])) (fun _=>True) ?_ ?_
 ·refine qoc (id:=6) (N:=108) [] [[],[],[],[2],[],[1,3,4],[0,5,5],[],[7,6,6,0,1,2,3,4,5,6,7]] [2] [0,1,3,4,5,6,7,8] (stG 108 [(4,.one (.bx 4 4 0 0)),(5,.one (.bx 5 7 0 0)),(6,.one (.bx 6 2 0 0)),(7,.one (.bx 7 4 0 0)),(10,.one (.bx 10 7 0 0)),(11,dv (.sl 1 (ints l))),(56,.one (.bx 5 7 0 0))] [(0,54,.agg d.row),(1,55,.agg a.row),(3,57,.agg d.rc.row),(4,58,.agg [.c (li p),.c (li day)]),(5,59,dv (.sl 2 (spns R))),(6,60,.agg x.row),(7,12,.one (.bx 12 7 0 0))] (fun m k=>if k=12 then(if m.testBit 8=true then some [x.row]else if m.testBit 7=true then some [[.c (li 0),.c (ls ⟨#[]⟩),.c (li 0),.c (li 0),.ex 1 [],.ex 4 [],.ex 7 []]]else none)else ml [(4,[a.row]),(5,[d.row]),(6,[[.c (li p),.c (li day)]]),(7,[[.c (li op),.c (li role),.c (ls txt),.c (.sl 4 ks)]]),(10,[x.row])] k)) 511 (by kernel_rfl) rfl (by kernel_rfl) (by kernel_rfl) (by kernel_rfl) (fun m=>rfl) ?_ ?_ ?_
  ·simp +decide only[go_sem,stG,wt,wn,wH,wE,vJ]
   exact kL rfl (by simp +decide only[go_sem]) (fun k r h=>by
    by_cases hk:k=12
    ·simp +decide only[go_sem,hk]at h
    ·simp +decide only[go_sem,hk]at h ⊢
     exact h)
  ·refine⟨?_,?_,?_,?_,?_,?_,?_,?_,trivial⟩
   all_goals(intro m hm0 hcl qfk)
   all_goals(simp only[List.getD_eq_getElem?_getD,List.getElem?_cons_succ,List.getElem?_cons_zero,Option.getD_some,List.forall_mem_cons,List.not_mem_nil,false_implies,implies_true,and_true]at qfk)
   iterate 4
    focus
     simp +decide only[go_sem,stG,wt,wn,wH,wE,hm0,Dcm.row,Rgt.row,Rcd.row]
     exact kL rfl (by simp +decide only[go_sem,vI,hm0,yf,yD]) (fun k r h=>by
      simp +decide only[go_sem,vI,yf]at h ⊢
      exact h)
   ·simp +decide only[go_sem,stG,wt,wn,wH,wE,qfk,hm0,Dcm.row,Rgt.row,Rcd.row]
    (repeat'(first|apply And.intro|(refine kw hrs ?_;simp +decide only[go_sem])|(refine kO (hrs) (kP rfl) ?_;simp +decide only[go_sem])))
    exact kL rfl (by simp +decide only[go_sem,vI,hm0,qfk,yf,yD]) (fun k r h=>by
     simp +decide only[go_sem,vI,yf]at h ⊢
     exact h)
   ·have h1:m.testBit 1=true:=hcl 5 qfk.2.1 1 (by decide)
    have h3:m.testBit 3=true:=hcl 5 qfk.2.1 3 (by decide)
    have h4:m.testBit 4=true:=hcl 5 qfk.2.1 4 (by decide)
    have h8:m.testBit 8=false:=by
     cases h:m.testBit 8
     ·rfl
     ·rw[hcl 8 h 6 (by decide)]at hm0;cases hm0
    cases h7:m.testBit 7
    all_goals(
     simp +decide only[go_sem,stG,wt,wn,wH,wE,qfk,hm0,h1,h3,h4,h7,h8,Dcm.row,Rgt.row,Rcd.row]
     (repeat'(first|apply And.intro|(refine kw hrv ?_;simp +decide only[go_sem])|(refine kO (hrv) (kP rfl) ?_;simp +decide only[go_sem])))
     exact kL rfl (by simp +decide only[go_sem,vI,hm0,qfk,h1,h3,h4,h7,yf,yD]) (fun k r h=>by
      simp +decide only[go_sem,vI,h7,h8,yf,apply_ite (Option.map (Rows.tr (cls [60])))]at h ⊢
      exact h))
   ·have h8:m.testBit 8=false:=by
     cases h:m.testBit 8
     ·rfl
     ·rw[hcl 8 h 7 (by decide)]at hm0;cases hm0
    simp +decide only[go_sem,stG,wt,wn,wH,wE,hm0,h8,Dcm.row,Rgt.row,Rcd.row]
    exact kL rfl (by simp +decide only[go_sem,vI,hm0,yf,yD,apply_ite (D.tr (fgt 12))]) (fun k r h=>by
     by_cases hk8:k=12
     ·simp +decide only[go_sem,vI,hm0,h8,hk8,yf,yD]at h ⊢
      exact h
     ·simp +decide only[go_sem,vI,hm0,h8,hk8,yf,yD,apply_ite (Option.map (Rows.tr (fgt 12)))]at h ⊢
      exact h)
   ·simp +decide only[go_sem,stG,wt,wn,wH,wE,qfk,hm0,Dcm.row,Rgt.row,Rcd.row]
    exact kL rfl (by simp +decide only[go_sem,vI,qfk,yf]) (fun k r h=>by
     by_cases hk8:k=12
     ·simp +decide only[go_sem,vI,hm0,qfk,hk8,yf,yD]at h ⊢
      exact h
     ·simp +decide only[go_sem,vI,hm0,qfk,hk8,yf,yD]at h ⊢
      exact h)
  ·simp +decide only[go_sem,stG,wt,wn,wH,wE]
   exact⟨(),kmm⟩
 rintro _ _
 repeat' first|(first|refine kcc ?_|refine kjj kq42 ?_|refine kx hsm ?_|refine kx hev ?_|refine kx hs7 ?_|apply kU);simp +decide only[go_sem,Dcm.row,Rgt.row]|apply kh<;>intro qa|((first|apply kH|apply kI)<;>(intro qa;first|(exact absurd qa (by decide))|(simp +decide only[go_sem,qa,Dcm.row,Rgt.row])))
 refine qj l (fun k=>kn 108 [(4,.one (.bx 4 4 0 0)),(5,.one (.bx 5 7 0 0)),(6,.one (.bx 6 2 0 0)),(10,.one (.bx 10 7 0 0)),(11,dv (.sl 1 (ints l))),(13,dv (li k))] (ml [(4,[a.row]),(5,[d.row]),(6,[[.c (li p),.c (li day)]]),(10,[x.row])])) (by omega) (km (by simp +decide only[go_sem,Dcm.row,Rgt.row])) ?_ ?_
 ·intro k id hid hk hm htk hlt hw
  obtain⟨n,hn,rfl⟩:=WfD.ids_mem.1 (hen id hm)
  have hx:(ints l)[k]? =some [li n.id]:=by simp[hid]
  have hG:=qby n.id
  rw[V.get hn]at hG
  have hS:=hrn n.id
  obtain⟨_,_,_,_,hsee⟩:=hvo n hn
  simp only[Nte.row]at hG
  repeat' first|(first|refine kcc ?_|refine kjj kq42 ?_|apply kU);simp +decide only[go_sem,hlt]|apply kh<;>intro qa|((first|apply kH|apply kI)<;>(intro qa;first|(exact absurd qa (by decide))|(simp +decide only[go_sem,qa,hlt,hx])))
  refine vq (fun _:Unit=>kn 108 [(4,.one (.bx 4 4 0 0)),(5,.one (.bx 5 7 0 0)),(6,.one (.bx 6 2 0 0)),(10,.one (.bx 10 7 0 0)),(11,dv (.sl 1 (ints l))),(13,dv (li k)),(14,.one (.bx 14 7 0 0)),(15,dv (lb true))] (ml [(4,[a.row]),(5,[d.row]),(6,[[.c (li p),.c (li day)]]),(10,[x.row]),(14,[n.row])])) (fun _=>True) ?_ ?_
  ·apply Zh (id:=12) (N:=108) [] [[],[],[],[1,2],[3],[0,4],[5],[6],[6],[],[9,7,5,0,1,2,3,4,5,6,7,9],[8,10,0,1,2,3,4,5,6,7,8,9,10]] (.bl 1 (.bl 2 (.thr 0 (.two 3 (.two 4 (.two 5 (.bl 6 (.ex 7 (.ex 8 (.run [9,10,11] .leaf)))) 9 (.run [5,6] (.ex 7 (.ex 8 (.run [10,11] .leaf))))) 9 (.run [4,5,6] (.ex 7 (.ex 8 (.run [10,11] .leaf))))) 9 (.run [3,4,5,6] (.ex 7 (.ex 8 (.run [10,11] .leaf))))) 3 (.thr 0 (.two 4 (.two 5 (.bl 6 (.ex 7 (.ex 8 (.run [9,10,11] .leaf)))) 9 (.run [5,6] (.ex 7 (.ex 8 (.run [10,11] .leaf))))) 9 (.run [4,5,6] (.ex 7 (.ex 8 (.run [10,11] .leaf))))) 4 (.two 0 (.two 5 (.bl 6 (.ex 7 (.ex 8 (.run [9,10,11] .leaf)))) 9 (.run [5,6] (.ex 7 (.ex 8 (.run [10,11] .leaf))))) 9 (.run [0,5,6] (.ex 7 (.ex 8 (.run [10,11] .leaf))))) 9 (.dia 0 4 (.run [5,6] (.ex 7 (.ex 8 (.run [10,11] .leaf)))))) 9 (.two 0 (.run [3,4,5,6] (.ex 7 (.ex 8 (.run [10,11] .leaf)))) 3 (.dia 0 4 (.run [5,6] (.ex 7 (.ex 8 (.run [10,11] .leaf)))))))));kernel_rfl;rfl;kernel_rfl;kernel_rfl
   simp only[wt,wn]
   simp +decide only[go_sem,hx,w4,Dcm.row,Nte.row,Rgt.row]
   (repeat'(first|apply And.intro|(refine kw hG ?_;simp +decide only[go_sem,w4])|(refine kO (hG) (kP rfl) ?_;simp +decide only[go_sem,hx,hid,w4,Dcm.row,Nte.row,Rgt.row])))
   all_goals exact⟨(),kmm⟩
  rintro _ _
  cases t7:n.txt==⟨#[]⟩
  ·rw[hsee (by intro e;rw[e]at t7;exact absurd t7 (by decide))]at hS
   repeat' first|(first|refine kcc ?_|refine kjj kq43 ?_|refine kx hrs ?_|refine kx hS ?_|apply kU);simp +decide only[go_sem,t7,hw,Dcm.row,Nte.row,Rgt.row,wT,yB]|apply kh<;>intro qa|((first|apply kH|apply kI)<;>(intro qa;first|(exact absurd qa (by decide))|(simp +decide only[go_sem,qa,t7,hw,Dcm.row,Nte.row,Rgt.row,Rcd.row,wT,yB])))
   exact kmm
  ·repeat' first|(first|refine kcc ?_|refine kjj kq43 ?_|apply kU);simp +decide only[go_sem,t7,hw,Dcm.row,Nte.row,Rgt.row,wT]|apply kh<;>intro qa|((first|apply kH|apply kI)<;>(intro qa;first|(exact absurd qa (by decide))|(simp +decide only[go_sem,qa,t7,hw,Dcm.row,Nte.row,Rgt.row,Rcd.row,wT,yB])))
   exact kmm
 ·intro hlt
  repeat' first|(first|refine kcc ?_|refine kjj kq42 ?_|refine kx hA ?_|apply kU|apply kF);simp +decide only[go_sem,hlt]|apply kh<;>intro qa|((first|apply kH|apply kI)<;>(intro qa;first|(exact absurd qa (by decide))|(simp +decide only[go_sem,qa,hlt])))
end Go.Proofs.YtaaodllggdjhiaaGreatDoor
