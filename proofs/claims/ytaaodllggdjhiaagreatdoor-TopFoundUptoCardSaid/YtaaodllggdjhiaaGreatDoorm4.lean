/- The logic of data over the kit's walk, and contracts of the functions that the laws reach, each said by plain data; part 5 of 7. -/
import Derived.Test.YtaaodllggdjhiaaGreatDoorm3
set_option linter.all false
set_option linter.unusedVariables false
set_option linter.unusedSimpArgs false
set_option maxRecDepth 10000
set_option maxHeartbeats 8000000
open Bool renaming eq_iff_iff → yH, true_and → yy, false_or → jH, true_or → jC, not_false → yB, not_true → wT, and_eq_true → wu, eq_false_or_eq_true → wN, or_eq_true → yX
open Go.Proofs.Tryz renaming prog → pP
open Int renaming toNat_natCast → wB
open List renaming mem_of_getElem? → wl, map_cons → wt, map_nil → wn, take_length → wh, length_filter_le → wC, mem_filter → wQ, getElem?_eq_getElem → wc, length_take → wx, take_of_length_le → wO, length_map → we, length_append → wA, length_cons → wz, length_nil → wR, append_assoc → wU, take_zero → wg, getElem?_eq_some_iff → wd, drop_eq_getElem_cons → wL, map_append → wJ, filter_append → yG, filter_nil → yi, any_eq_true → yo, length_eq_zero_iff → yh, length_drop → yc, mem_range → y9, getElem?_eq_none → wZ, drop_succ_cons → wj, drop_zero → ww, foldl_nil → w9, getElem?_map → wq, cons_append → wH, mem_cons → ws, getD_cons_zero → jk, getElem?_take_of_lt → y8, mem_iff_getElem? → yq, mem_map → wI, filterMap_cons → yQ, filterMap_nil → yS, nil_append → wE, length_range → ju, pairwise_cons → wK, flatMap_cons → jr, mem_flatMap → jm, append_nil → wM, mem_append → wo, any_eq_false → jb, drop_length → jE, foldl_cons → w6, foldl_append → yp, getElem?_append_right → wG, map_set → yZ
open Nat renaming lt_succ_iff_lt_or_eq → yu, le_refl → wv, le_trans → wD
open Option renaming map_some → w4, getD_some → yP
open Go.Dl renaming dw_seq → kA, dw_block → kB, dw_reg → kC, dw_skip → kD, dw_exit → kE, dw_ret → kF, dw_cond → kG, guardC_f → kH, guardC_t → kI, dw_drw → kJ, dw_weaken → kK, sub_kn → kL, sub_ml → kM
open Go.Dl.CallC renaming mk → kN, light → kO
open Go.Dl.LeL renaming of_eq → kP
namespace Go.Proofs.YtaaodllggdjhiaaGreatDoor
open Go.Dl
attribute [local irreducible] DW DCalls ECalls qo wk IW
theorem qeV(d:Dcm)(W:WfD d)(id:Int)(hl:d.notes.length<=1000000)(ht:d.tiers.length<=1000000):DCalls pP 54 [.agg d.row,dv (li id)] (.tup [.agg (d.wher id).1.row,dv (lb (d.wher id).2)]):=by
 have qK:=kmax
 have hUl:=W.up_le id
 have hc:=qeZ d W id hl ht
 have hch:d.chain id=(d.up id).map (·.id):=rfl
 rw[hch]at hc
 have hwa:=fun r=>@qlZ d id r
 have hwn:=@qlY d id
 have hG: ∀k,k<(d.up id).length->DCalls pP 19 [.agg d.row,dv (li (curU (d.up id) k).id)] (.tup [.agg (curU (d.up id) k).row,dv (lb true)]):=fun k hk=>by
  have h1:=vP d (curU (d.up id) k).id hl
  rwa [W.get (W.up_mem id _ (wl (qa1 hk)))]at h1
 generalize d.up id=U at*
 simp only[Dcm.row]at hc
 refine kd (N:=36) (rs:=[.cell 4 60,.tmp 5]) Tryz.func54 ?_
 repeat' first|(first|refine kcc ?_|refine kx hc ?_|apply kU);simp only[go_sem,Dcm.row]|apply kh<;>intro qa
 refine qC U (fun k=>kn 36 [(2,.one (.bx 2 7 0 0)),(4,.one (.bx 4 2 0 0)),(6,dv (.sl 1 (ints (U.map (·.id))))),(7,dv (li k))] (ml [(2,[d.row]),(4,[[.c (li 0),.c (li 0)]])])) (fun k=>∀j,j<k->alg d.tiers (curU U j).tier=false) (by omega) (km (by simp only[go_sem,Dcm.row])) (by omega) ?_ ?_
 ·intro k n hn hk hm htk hlt hw hi
  have hne:n=curU U k:=by rw[qa1 hk]at hn;injection hn with hn;exact hn.symm
  have hx:(ints (U.map (·.id)))[k]? =some [li n.id]:=by simp[hn]
  have hg:=hG k hk
  rw[<-hne]at hg
  have hal:=qgp d.tiers n.tier
  simp only[Dcm.row,Nte.row]at hg
  repeat' first|(first|refine kcc ?_|apply kU);simp only[go_sem,hlt,Dcm.row]|apply kh<;>intro qa
  refine vq (fun _:Unit=>kn 36 [(2,.one (.bx 2 7 0 0)),(4,.one (.bx 4 2 0 0)),(6,dv (.sl 1 (ints (U.map (·.id))))),(7,dv (li k)),(8,.one (.bx 8 7 0 0))] (ml [(2,[d.row]),(4,[[.c (li 0),.c (li 0)]]),(8,[n.row])])) (fun _=>True) ?_ ?_
  ·apply Zh (id:=5) (N:=36) [] [[],[],[],[1,2],[3],[0,4],[5],[6],[6],[],[9,7,5,0,1,2,3,4,5,6,7,9],[8,10,0,1,2,3,4,5,6,7,8,9,10]] (.bl 1 (.bl 2 (.thr 0 (.two 3 (.two 4 (.two 5 (.bl 6 (.ex 7 (.ex 8 (.run [9,10,11] .leaf)))) 9 (.run [5,6] (.ex 7 (.ex 8 (.run [10,11] .leaf))))) 9 (.run [4,5,6] (.ex 7 (.ex 8 (.run [10,11] .leaf))))) 9 (.run [3,4,5,6] (.ex 7 (.ex 8 (.run [10,11] .leaf))))) 3 (.thr 0 (.two 4 (.two 5 (.bl 6 (.ex 7 (.ex 8 (.run [9,10,11] .leaf)))) 9 (.run [5,6] (.ex 7 (.ex 8 (.run [10,11] .leaf))))) 9 (.run [4,5,6] (.ex 7 (.ex 8 (.run [10,11] .leaf))))) 4 (.two 0 (.two 5 (.bl 6 (.ex 7 (.ex 8 (.run [9,10,11] .leaf)))) 9 (.run [5,6] (.ex 7 (.ex 8 (.run [10,11] .leaf))))) 9 (.run [0,5,6] (.ex 7 (.ex 8 (.run [10,11] .leaf))))) 9 (.dia 0 4 (.run [5,6] (.ex 7 (.ex 8 (.run [10,11] .leaf)))))) 9 (.two 0 (.run [3,4,5,6] (.ex 7 (.ex 8 (.run [10,11] .leaf)))) 3 (.dia 0 4 (.run [5,6] (.ex 7 (.ex 8 (.run [10,11] .leaf)))))))));kernel_rfl;rfl;kernel_rfl;kernel_rfl
   simp only[wt,wn]
   simp only[go_sem,hx,w4,Dcm.row]
   (repeat'(first|apply And.intro|(refine kw hg ?_;simp only[go_sem,w4,Nte.row])|(refine kO (hg) (kP rfl) ?_;simp only[go_sem,hx,hn,w4,Dcm.row,Nte.row])))
   all_goals exact⟨(),kmm⟩
  rintro _ _
  cases h2:alg d.tiers n.tier
  ·rw[h2]at hal
   repeat' first|(first|refine kcc ?_|refine kx hal ?_|apply kU);simp only[go_sem,hw,Dcm.row,Nte.row]|apply kh<;>intro qa
   refine⟨fun j hj=>?_,kmm⟩
   rcases yu.1 hj with h|h
   ·exact hi j h
   ·rw[h,<-hne];exact h2
  ·rw[h2]at hal
   rw[hwa k hk hi (by rw[<-hne];exact h2),<-hne]
   repeat' first|(first|refine kcc ?_|refine kx hal ?_|apply kU|apply kF);simp only[go_sem,Dcm.row,Nte.row]|apply kh<;>intro qa
   rfl
 ·intro hlt hi
  rw[hwn hi]
  repeat' first|(first|refine kcc ?_|apply kU|apply kF);simp only[go_sem,hlt,Dcm.row]|apply kh<;>intro qa
  rfl
end Go.Proofs.YtaaodllggdjhiaaGreatDoor
namespace Go.Proofs.YtaaodllggdjhiaaGreatDoor
abbrev kpm5:List (Nat×Go.Dl.Mode):=[(0,.light),(1,.light),(2,.light),(3,.light),(4,.light),(5,.light),(6,.light),(7,.light),(8,.light),(9,.light),(10,.step),(11,.light)]
abbrev kq4:Nat->List (Nat×Go.Dl.Mode):=fun n=>match n with|8=>kpm5|_=>[]
end Go.Proofs.YtaaodllggdjhiaaGreatDoor
namespace Go.Proofs.YtaaodllggdjhiaaGreatDoor
open Go.Dl
attribute [local irreducible] DW DCalls ECalls qo wk IW
def Dcm.accN(d:Dcm)(t:Int)(k:Nat):List Nte:=insB d.bef ((d.notes.take k).filter fun n=>n.tier==t)
theorem qoO(d:Dcm)(t:Int):d.accN t 0= []:=rfl
theorem qfI(d:Dcm)(t:Int):d.accN t d.notes.length=d.ofN t:=by unfold Dcm.accN;rw[wh];rfl
theorem qcr(d:Dcm)(t:Int)(k:Nat):(d.accN t k).length<=d.notes.length:=by
 unfold Dcm.accN;rw[qqp]
 have:=wC (fun n:Nte=>n.tier==t) (d.notes.take k)
 simp at this;omega
theorem qq8{d:Dcm}{t:Int}{k:Nat}{n:Nte}(h:n∈d.accN t k):n∈d.notes/\n.tier=t:=by
 have h1:=wQ.1 (insB_mem.1 h)
 exact⟨List.mem_of_mem_take h1.1,by simpa using h1.2⟩
theorem rOf_D(d:Dcm)(W:WfD d)(t:Int)(hl:d.notes.length<=10000):DCalls pP 104 [.agg d.row,dv (li t)] (dv (.sl 1 (ints (d.of t)))):=by
 have qK:=kmax
 have hof:d.of t=(d.accN t d.notes.length).map (·.id):=by rw[qfI];rfl
 rw[hof]
 refine kd (N:=72) (rs:=[.tmp 4]) Tryz.func104 ?_
 repeat' first|(first|refine kcc ?_|refine kjj kq4 ?_|apply kU);simp +decide only[go_sem,Dcm.row]|apply kh<;>intro qa
 refine qw 5 _ (DLe.ex_ _ _) ?_
 refine qj d.notes (fun k=>kn 72 [(1,dv (li t)),(2,.one (.bx 2 7 0 0)),(5,dv (.sl 7 ((d.accN t k).map Nte.enc))),(6,dv (li k))] (ml [(2,[d.row])])) (by omega)
  (kM rfl (by simp +decide only[go_sem,qoO,wn]) (by simp +decide only[go_sem,Dcm.row])) ?_ ?_
 ·intro k n hn hk hm htk hlt hw
  have hal:=qcr d t k
  have hst:d.accN t (k+1)=_:=qnQ d t htk
  have hmk: ∀y∈d.accN t k,y∈d.notes/\y.tier=t:=fun y hy=>qq8 hy
  have hfold:insB d.bef ((d.notes.take k).filter fun n=>n.tier==t)=d.accN t k:=rfl
  rw[hfold]at hst
  rw[hst]
  generalize d.accN t k=acc at hal hmk ⊢
  cases h0:n.tier !=t
  rotate_left
  ·have h0':(n.tier==t)=false:=by simpa[bne]using h0
   rw[h0',if_neg (by decide)]
   repeat' first|(first|refine kcc ?_|refine kjj kq4 ?_|apply kU);simp +decide only[go_sem,hlt,hw,hn,h0,Dcm.row,Nte.enc]|apply kh<;>intro qa
   exact kmm
  have h0':(n.tier==t)=true:=by simpa[bne]using h0
  have hnt:n.tier=t:=by simpa using h0'
  rw[h0',if_pos rfl]
  repeat' first|(first|refine kcc ?_|refine kjj kq4 ?_|apply kU);simp +decide only[go_sem,hlt,hn,h0,Dcm.row,Nte.enc]|apply kh<;>intro qa
  refine vz (fun _:Unit=>kn 72 [(1,dv (li t)),(2,.one (.bx 2 7 0 0)),(5,dv (.sl 7 (acc.map Nte.enc))),(6,dv (li k)),(7,.one (.bx 7 7 0 0)),(8,dv (li (q9 (fun y=>d.bef n y) acc acc.length)))] (ml [(2,[d.row]),(7,[n.row])])) (fun _=>True) ?_ ?_
  ·refine qk (fun i:Nat=>kn 72 [(1,dv (li t)),(2,.one (.bx 2 7 0 0)),(5,dv (.sl 7 (acc.map Nte.enc))),(6,dv (li k)),(7,.one (.bx 7 7 0 0)),(8,dv (li i))] (ml [(2,[d.row]),(7,[n.row])])) (fun i=>i<=acc.length/\q9 (fun y=>d.bef n y) acc acc.length=q9 (fun y=>d.bef n y) acc i) (fun i=>i) acc.length (km (by simp +decide only[go_sem,Dcm.row,Nte.row])) ⟨wv _,rfl⟩ ?_
   rintro i ⟨hik,hbk⟩
   rw[hbk]
   cases i with
   | zero=>
    have t1:((0:Int)<((0:Nat):Int))=False:=by simp
    repeat' first|(first|refine kcc ?_|refine kjj kq4 ?_|apply kU);simp +decide only[go_sem,Dcm.row,Nte.row]|apply kh<;>intro qa
    exact⟨(),kM rfl (by simp +decide only[go_sem,q9]) (by simp +decide only[go_sem])⟩
   | succ m=>
    obtain⟨y,hy⟩: ∃y,acc[m]? =some y:=⟨acc[m]'(by omega),wc (by omega)⟩
    have hym:=hmk y (wl hy)
    have hB:=qgo d W (by omega) (n.tier.toNat+1) n y hm hym.1 (by rw[hnt,hym.2]) (by omega)
    simp only[Dcm.row,Nte.row]at hB
    have w1:IntKind.i64.wrap (((m+1:Nat):Int) - 1)=(m:Int):=by rw[wrap_i64 (by omega) (by omega)];omega
    have t1:((0:Int)<((m+1:Nat):Int))=True:=eq_true (by omega)
    have hbe:q9 (fun y=>d.bef n y) acc (m+1)=if d.bef n y=true then q9 (fun y=>d.bef n y) acc m else m+1:=by simp only[q9,hy]
    cases t2:d.bef n y
    ·rw[t2]at hB
     rw[t2,if_neg (by decide)]at hbe
     repeat' first|(first|refine kcc ?_|refine kjj kq4 ?_|refine kx hB ?_|apply kU);simp +decide only[go_sem,t1,w1,hy,Dcm.row,Nte.row,Nte.enc,wB]|apply kh<;>intro qa
     exact⟨(),kM rfl (by simp +decide only[go_sem,hbe]) (by simp +decide only[go_sem])⟩
    ·rw[t2]at hB
     rw[t2,if_pos rfl]at hbe
     repeat' first|(first|refine kcc ?_|refine kjj kq4 ?_|refine kx hB ?_|apply kU);simp +decide only[go_sem,t1,w1,hy,Dcm.row,Nte.row,Nte.enc,wB]|apply kh<;>intro qa
     exact⟨m,⟨by omega,hbe⟩,by omega,kmm⟩
  rintro _ _
  have hpl:=qfE (fun y=>d.bef n y) acc acc.length
  have hpb:qU (fun y=>d.bef n y) acc n=acc.take (q9 (fun y=>d.bef n y) acc acc.length)++n::acc.drop (q9 (fun y=>d.bef n y) acc acc.length):=rfl
  rw[hpb]
  generalize q9 (fun y=>d.bef n y) acc acc.length=p at hpl ⊢
  clear hpb hst
  have hkk:(acc.take p).length=p:=by rw[wx];omega
  have hpT:(p<=acc.length)=True:=eq_true (by omega)
  have h0p:=Nat.zero_le p
  have htI:List.take acc.length (acc.map Nte.enc)=acc.map Nte.enc:=wO (by simp)
  have htP:List.take p (acc.map Nte.enc)=(acc.take p).map Nte.enc:=by simp[List.map_take]
  have hdP:List.drop p (acc.map Nte.enc)=(acc.drop p).map Nte.enc:=by simp[List.map_drop]
  have hfin:(acc.take p++n::acc.drop p).map Nte.enc=(acc.take p).map Nte.enc++[n.enc]++(acc.drop p).map Nte.enc:=by simp
  rw[hfin]
  generalize hA:(acc.take p).map Nte.enc=A at*
  generalize hB:(acc.drop p).map Nte.enc=B at*
  have hAl:A.length=p:=by rw[<-hA,we];exact hkk
  have hBl:B.length<=10000:=by rw[<-hB];simp;omega
  have r1:(A.length*64<=140737488355328)=True:=eq_true (by omega)
  have r2:((A.length+1)*64<=140737488355328)=True:=eq_true (by omega)
  have r3:((A.length+1+B.length)*64<=140737488355328)=True:=eq_true (by omega)
  refine qoe (fun _:Unit=>kn 72 [(1,dv (li t)),(2,.one (.bx 2 7 0 0)),(5,dv (.sl 7 (A++[n.enc]++B))),(6,dv (li k))] (ml [(2,[d.row])])) (fun _=>True) ?_ ?_
  ·apply Zh (id:=10) (N:=72) [] [[],[],[],[1,2],[0,3],[],[5],[4,6,4],[],[],[8,9],[7,10,7],[11,11,0,1,2,3,4,5,6,7,8,9,10,11]] (.bl 1 (.bl 2 (.bl 3 (.bl 8 (.bl 9 (.bl 10 (.two 0 (.two 4 (.run [5,6,7,11,12] .leaf) 5 (.two 4 (.run [6,7,11,12] .leaf) 6 (.run [4,7,11,12] .leaf))) 5 (.two 0 (.two 4 (.run [6,7,11,12] .leaf) 6 (.run [4,7,11,12] .leaf)) 6 (.run [0,4,7,11,12] .leaf)))))))));kernel_rfl;rfl;kernel_rfl;kernel_rfl
   simp only[wt,wn]
   simp +decide only[go_sem,hpT,h0p,htI,htP,hdP,r1,r2,r3,Dcm.row,Nte.row,Nte.enc,wA,we,wz,wR,wB]
   (repeat' apply And.intro)
   all_goals exact⟨(),kM rfl (by simp +decide only[go_sem,wU]) (by simp +decide only[go_sem])⟩
  rintro _ _ s' hs
  refine kK hs ?_
  repeat' first|(first|refine kcc ?_|refine kjj kq4 ?_|apply kU);simp +decide only[go_sem,hw]|apply kh<;>intro qa
  exact km (by simp +decide only[go_sem,Dcm.row])
 ·intro hlt
  have hal:=qcr d t d.notes.length
  generalize d.accN t d.notes.length=acc at hal ⊢
  repeat' first|(first|refine kcc ?_|refine kjj kq4 ?_|apply kU);simp +decide only[go_sem,hlt,Dcm.row]|apply kh<;>intro qa
  refine qau 9 9 1 [] (by simp +decide only[go_sem]) ?_
  refine qj acc (fun k=>kn 72 [(5,dv (.sl 7 (acc.map Nte.enc))),(9,.one (.own 9 1 (ints ((acc.take k).map (·.id))))),(10,dv (li k))] qc) (by omega)
   (kL rfl (by simp +decide only[go_sem,wg,wn]) (by simp[qc])) ?_ ?_
  ·intro k e he hk hm htk Zu hw
   have hkl:((acc.take k).map (·.id)).length=k:=by rw[we,wx];omega
   have r1:(((acc.take k).length+1)*8<=140737488355328)=True:=eq_true (by rw[wx];omega)
   have hst:ints ((acc.take (k+1)).map (·.id))=ints ((acc.take k).map (·.id))++[[li e.id]]:=by rw[htk];simp
   rw[hst]
   repeat' first|(first|refine kcc ?_|refine kjj kq4 ?_|apply kU);simp +decide only[go_sem,Zu,hw,he,r1,Nte.enc,we]|apply kh<;>intro qa
   exact kl
  ·intro Zu
   rw[wh]
   repeat' first|(first|refine kcc ?_|refine kjj kq4 ?_|apply kU);simp +decide only[go_sem,Zu]|apply kh<;>intro qa
   refine qw 4 _ (DLe.own_ _ _ _) ?_
   apply kF;simp +decide only[go_sem]
theorem qk1{L:List Nte}{i:Nat}{a b:Nte}(ha:L[i]? =some a)(hb:L[i+1]? =some b)(id par:Int):qal (L.drop i) id par=if a.id=id/\b.par=par then b.id else qal (L.drop (i+1)) id par:=by
 obtain⟨h1,rfl⟩:=wd.1 ha
 obtain⟨h2,rfl⟩:=wd.1 hb
 rw[wL h1,wL h2,qal]
theorem qnl{L:List Nte}{i:Nat}(h:L.length<=i+1)(id par:Int):qal (L.drop i) id par=0:=by
 have:(L.drop i).length<=1:=by simp;omega
 match hL:L.drop i,this with
 | [],_=>rfl
 | [a],_=>rfl
theorem rNext_D(d:Dcm)(W:WfD d)(id:Int)(hl:d.notes.length<=10000):DCalls pP 107 [.agg d.row,dv (li id)] (dv (li (d.nextD id))):=by
 have qK:=kmax
 have hg:=vP d id (by omega)
 unfold Dcm.nextD
 cases hf:d.notes.find? (fun n=>n.id==id)with
 | none=>
  have hgn:getN d.notes id=(noNte,false):=by unfold getN;rw[hf]
  rw[hgn]at hg
  simp only[Dcm.row,Nte.row]at hg
  refine kd (N:=55) (rs:=[.tmp 4]) Tryz.func107 ?_
  repeat' first|(first|refine kcc ?_|refine kx hg ?_|apply kU|apply kF);simp only[go_sem,Dcm.row]|apply kh<;>intro qa
 | some n=>
  obtain⟨hn,hne⟩:=zQ hf
  have hgn:getN d.notes id=(n,true):=by unfold getN;rw[hf]
  rw[hgn]at hg
  have hof:=rOf_D d W n.tier hl
  have hid:d.of n.tier=(d.ofN n.tier).map (·.id):=rfl
  have hLl:(d.ofN n.tier).length<=d.notes.length:=by rw[<-qfI];exact qcr d n.tier _
  have hLm: ∀m∈d.ofN n.tier,m∈d.notes:=fun m hm=>(W.ofN_mem.1 hm).1
  rw[hid]at hof
  show DCalls _ _ _ (dv (li (qal (d.ofN n.tier) id n.par)))
  generalize d.ofN n.tier=L at hof hLl hLm ⊢
  simp only[Dcm.row,Nte.row]at hg hof
  refine kd (N:=55) (rs:=[.tmp 4]) Tryz.func107 ?_
  repeat' first|(first|refine kcc ?_|refine kx hg ?_|refine kx hof ?_|apply kU);simp only[go_sem,Dcm.row]|apply kh<;>intro qa
  refine qk (fun i:Nat=>kn 55 [(1,dv (li id)),(2,.one (.bx 2 7 0 0)),(5,.one (.bx 5 7 0 0)),(7,dv (.sl 1 (ints (L.map (·.id))))),(8,dv (li i))] (ml [(2,[d.row]),(5,[n.row])])) (fun i=>i<=L.length/\qal L id n.par=qal (L.drop i) id n.par) (fun i=>L.length - i) 0 (km (by simp only[go_sem,Dcm.row,Nte.row])) ⟨by omega,rfl⟩ ?_
  rintro i ⟨hi,hnx⟩
  have hw:=qt i (by omega)
  cases h1:decide (((i+1:Nat):Int)<(L.length:Int))
  ·have hle:L.length<=i+1:=by simp at h1;omega
   rw[hnx.trans (qnl hle _ _)]
   repeat' first|(first|refine kcc ?_|apply kU|apply kF);simp only[go_sem,hw,h1,we]|apply kh<;>intro qa
  have hlt:i+1<L.length:=by simp at h1;omega
  obtain⟨a,ha⟩: ∃a,L[i]? =some a:=⟨_,wc (by omega)⟩
  obtain⟨b,hb⟩: ∃b,L[i+1]? =some b:=⟨_,wc hlt⟩
  have hxa:(ints (L.map (·.id)))[i]? =some [li a.id]:=by simp[ha]
  have hxb:(ints (L.map (·.id)))[i+1]? =some [li b.id]:=by simp[hb]
  have hgb:=vP d b.id (by omega)
  rw[W.get (hLm b (wl hb))]at hgb
  simp only[Dcm.row,Nte.row]at hgb
  have hst:=qk1 ha hb id n.par
  have hlt':(i+1<L.length)=True:=eq_true hlt
  repeat' first|(first|refine kcc ?_|apply kU);simp only[go_sem,hw,h1,we]|apply kh<;>intro qa
  refine vq (fun _:Unit=>kn 55 [(1,dv (li id)),(2,.one (.bx 2 7 0 0)),(5,.one (.bx 5 7 0 0)),(7,dv (.sl 1 (ints (L.map (·.id))))),(8,dv (li i)),(9,.one (.bx 9 7 0 0))] (ml [(2,[d.row]),(5,[n.row]),(9,[b.row])])) (fun _=>True) ?_ ?_
  ·apply Zh (id:=8) (N:=55) [] [[],[],[],[2],[1,3],[4],[0,5],[6],[7],[7],[],[10,8,6,0,1,2,3,4,5,6,7,8,10],[9,11,0,1,2,3,4,5,6,7,8,9,10,11]] (.bl 1 (.bl 2 (.bl 3 (.thr 0 (.two 4 (.two 5 (.two 6 (.bl 7 (.ex 8 (.ex 9 (.run [10,11,12] .leaf)))) 10 (.run [6,7] (.ex 8 (.ex 9 (.run [11,12] .leaf))))) 10 (.run [5,6,7] (.ex 8 (.ex 9 (.run [11,12] .leaf))))) 10 (.run [4,5,6,7] (.ex 8 (.ex 9 (.run [11,12] .leaf))))) 4 (.thr 0 (.two 5 (.two 6 (.bl 7 (.ex 8 (.ex 9 (.run [10,11,12] .leaf)))) 10 (.run [6,7] (.ex 8 (.ex 9 (.run [11,12] .leaf))))) 10 (.run [5,6,7] (.ex 8 (.ex 9 (.run [11,12] .leaf))))) 5 (.two 0 (.two 6 (.bl 7 (.ex 8 (.ex 9 (.run [10,11,12] .leaf)))) 10 (.run [6,7] (.ex 8 (.ex 9 (.run [11,12] .leaf))))) 10 (.run [0,6,7] (.ex 8 (.ex 9 (.run [11,12] .leaf))))) 10 (.dia 0 5 (.run [6,7] (.ex 8 (.ex 9 (.run [11,12] .leaf)))))) 10 (.two 0 (.run [4,5,6,7] (.ex 8 (.ex 9 (.run [11,12] .leaf)))) 4 (.dia 0 5 (.run [6,7] (.ex 8 (.ex 9 (.run [11,12] .leaf))))))))));kernel_rfl;rfl;kernel_rfl;kernel_rfl
   simp only[wt,wn]
   simp only[go_sem,hw,hxb,w4,Dcm.row,Nte.row,wB]
   (repeat'(first|apply And.intro|(refine kw hgb ?_;simp only[go_sem,w4])|(refine kO (hgb) (kP rfl) ?_;simp only[go_sem,hw,hxb,hb,hlt',w4,Dcm.row,Nte.row,we,wB])))
   all_goals exact⟨(),kmm⟩
  rintro _ _
  cases t1:a.id==id
  ·have e1: ¬(a.id=id/\b.par=n.par):=fun h=>by rw[h.1]at t1;simp at t1
   rw[if_neg e1]at hst
   repeat' first|(first|refine kcc ?_|apply kU);simp only[go_sem,hw,hxa,t1,Nte.row]|apply kh<;>intro qa
   exact⟨i+1,⟨by omega,hnx.trans hst⟩,by omega,km (by simp only[go_sem,Dcm.row])⟩
  ·cases t2:b.par==n.par
   ·have e1: ¬(a.id=id/\b.par=n.par):=fun h=>by rw[h.2]at t2;simp at t2
    rw[if_neg e1]at hst
    repeat' first|(first|refine kcc ?_|apply kU);simp only[go_sem,hw,hxa,t1,t2,Nte.row]|apply kh<;>intro qa
    exact⟨i+1,⟨by omega,hnx.trans hst⟩,by omega,km (by simp only[go_sem,Dcm.row])⟩
   ·have e1:a.id=id/\b.par=n.par:=⟨by simpa using t1,by simpa using t2⟩
    rw[if_pos e1]at hst
    rw[hnx.trans hst]
    repeat' first|(first|refine kcc ?_|apply kU|apply kF);simp only[go_sem,hxa,t1,t2,Nte.row]|apply kh<;>intro qa
end Go.Proofs.YtaaodllggdjhiaaGreatDoor
namespace Go.Proofs.YtaaodllggdjhiaaGreatDoor
abbrev kpm6:List (Nat×Go.Dl.Mode):=[(0,.light),(1,.light),(2,.light),(3,.light),(4,.light),(5,.light),(6,.light),(7,.step)]
abbrev kq5:Nat->List (Nat×Go.Dl.Mode):=fun n=>match n with|7=>kpm6|_=>[]
end Go.Proofs.YtaaodllggdjhiaaGreatDoor
namespace Go.Proofs.YtaaodllggdjhiaaGreatDoor
open Go.Dl
attribute [local irreducible] DW DCalls ECalls qo wk IW
theorem qqb(d:Dcm)(a:List Int){k:Nat}{n:Nte}(h:d.notes.take (k+1)=d.notes.take k++[n]):((d.notes.take (k+1)).map (·.id)).filter (inL a)=((d.notes.take k).map (·.id)).filter (inL a)++if inL a n.id=true then [n.id]else []:=by
 rw[h,wJ,yG];congr 1;cases hq:inL a n.id<;>simp[hq]
theorem qcj(q:Int->Bool){l:List Int}{k:Nat}{x:Int}(h:l.take (k+1)=l.take k++[x]):ints ((l.take (k+1)).filter q)=ints ((l.take k).filter q)++if q x=true then [[li x]]else []:=by
 rw[h,yG];cases hq:q x<;>simp[hq]
theorem qfr{α:Type}(q:α->Bool)(l:List α)(k:Nat):((l.take k).filter q).length<=l.length:=by
 have:=wC q (l.take k);simp at this;omega
theorem ZO(d:Dcm)(a:List Int)(hl:d.notes.length<=10000)(ha:a.length<=1000000):DCalls pP 106 [.agg d.row,dv (.sl 1 (ints a))] (dv (.sl 1 (ints (qI d a)))):=by
 have qK:=kmax
 refine kd (N:=32) (rs:=[.tmp 4]) Tryz.func106 ?_
 repeat' first|(first|refine kcc ?_|apply kU);simp +decide only[go_sem,Dcm.row]|apply kh<;>intro qa
 refine zl 5 5 1 (by simp +decide only[go_sem]) ?_
 refine qj d.notes (fun k=>kn 32 [(1,dv (.sl 1 (ints a))),(2,.one (.bx 2 7 0 0)),(5,.one (.own 5 1 (ints (((d.notes.take k).map (·.id)).filter (inL a))))),(6,dv (li k))] (ml [(2,[d.row])])) (by omega) (kM rfl (by simp +decide only[go_sem,wg,wn,yi]) (by simp +decide only[go_sem,Dcm.row])) ?_ ?_
 ·intro k n hn hk hm htk hlt hw
  have hH:=ZA a n.id (by omega)
  have hfl:(((d.notes.take k).map (·.id)).filter (inL a)).length<=d.notes.length:=by
   have:=wC (inL a) ((d.notes.take k).map (·.id));simp only[we,wx]at this;omega
  rw[qqb d a htk]
  generalize ((d.notes.take k).map (·.id)).filter (inL a)=p at hfl ⊢
  have hb8:((p.length+1)*8<=140737488355328)=True:=eq_true (by omega)
  cases h1:inL a n.id
  ·have h1':(a.any fun x=>x==n.id)=false:=h1
   rw[h1']at hH
   repeat' first|(first|refine kcc ?_|refine kx hH ?_|apply kU);simp +decide only[go_sem,hlt,hw,hn,Nte.enc,Dcm.row]|apply kh<;>intro qa
   exact kmm
  ·have h1':(a.any fun x=>x==n.id)=true:=h1
   rw[h1']at hH
   repeat' first|(first|refine kcc ?_|refine kx hH ?_|apply kU);simp +decide only[go_sem,hlt,hw,hn,hb8,Nte.enc,Dcm.row]|apply kh<;>intro qa
   exact kM rfl (by simp +decide only[go_sem,ints,wJ,wt,wn]) (by simp +decide only[go_sem])
 ·intro hlt
  rw[wh]
  repeat' first|(first|refine kcc ?_|apply kU);simp +decide only[go_sem,hlt,Dcm.row]|apply kh<;>intro qa
  refine qw 4 _ (DLe.own_ _ _ _) ?_
  apply kF;simp +decide only[go_sem]
  rfl
theorem rCont_D(d:Dcm)(W:WfD d)(x y:Int)(hl:d.notes.length<=10000)(ht:d.tiers.length<=10000):DCalls pP 108 [.agg d.row,dv (li x),dv (li y)] (dv (lb (Zp (d.wher x).1 (d.wher y).1))):=by
 have h1:=qeV d W x (by omega) (by omega)
 have h2:=qeV d W y (by omega) (by omega)
 unfold Zp
 generalize d.wher x=p at*
 generalize d.wher y=q at*
 simp only[Dcm.row,Spn.row]at h1 h2
 refine kd (N:=35) (rs:=[.tmp 6]) Tryz.func108 ?_
 cases t1:decide (p.1.fr<=q.1.fr)
 ·repeat' first|(first|refine kcc ?_|refine kx h1 ?_|refine kx h2 ?_|apply kU|apply kF);simp only[go_sem,t1,Dcm.row]|apply kh<;>intro qa
 ·repeat' first|(first|refine kcc ?_|refine kx h1 ?_|refine kx h2 ?_|apply kU|apply kF);simp only[go_sem,t1,Dcm.row]|apply kh<;>intro qa
theorem rThen_D(d:Dcm)(W:WfD d)(a b:List Int)(hl:d.notes.length<=10000)(ha:a.length<=1000000)(hb:b.length<=1000000):DCalls pP 51 [.agg d.row,dv (.sl 1 (ints a)),dv (.sl 1 (ints b))] (dv (.sl 1 (ints (qhK d a b)))):=by
 have qK:=kmax
 have n1:=ZO d a hl ha
 have n2:=ZO d b hl hb
 have l1:=WfD.notesI_len (d:=d) a
 have l2:=WfD.notesI_len (d:=d) b
 unfold qhK
 generalize qI d a=A at*
 generalize qI d b=B at*
 simp only[Dcm.row]at n1 n2
 refine kd (N:=39) (rs:=[.tmp 6]) Tryz.func51 ?_
 repeat' first|(first|refine kcc ?_|refine kjj kq5 ?_|refine kx n1 ?_|refine kx n2 ?_|apply kU);simp +decide only[go_sem,Dcm.row]|apply kh<;>intro qa
 refine zl 7 7 1 (by simp +decide only[go_sem]) ?_
 refine qj A (fun k=>kn 39 [(3,.one (.bx 3 7 0 0)),(7,.one (.own 7 1 (ints ((A.take k).filter fun i=>inL B (d.next i))))),(8,dv (.sl 1 (ints A))),(9,dv (.sl 1 (ints B))),(10,dv (li k))] (ml [(3,[d.row])])) (by omega) (kM rfl (by simp +decide only[go_sem,wg,yi,wn]) (by simp +decide only[go_sem,Dcm.row])) ?_ ?_
 ·intro k x hx hk hm htk hlt hw
  have hxi:=qp hx
  have hN:=rNext_D d W x hl
  rw[<-W.next_eq x]at hN
  have hH:=ZA B (d.next x) (by omega)
  have hfl:=qfr (fun i=>inL B (d.next i)) A k
  rw[qcj _ htk]
  generalize (A.take k).filter (fun i=>inL B (d.next i))=p at hfl ⊢
  have hb8:((p.length+1)*8<=140737488355328)=True:=eq_true (by omega)
  simp only[Dcm.row]at hN
  cases h1:inL B (d.next x)
  ·have h1':(B.any fun y=>y==d.next x)=false:=h1
   rw[h1']at hH
   repeat' first|(first|refine kcc ?_|refine kjj kq5 ?_|refine kx hN ?_|refine kx hH ?_|apply kU);simp +decide only[go_sem,hlt,hw,hxi,Dcm.row]|apply kh<;>intro qa
   exact kmm
  ·have h1':(B.any fun y=>y==d.next x)=true:=h1
   rw[h1']at hH
   repeat' first|(first|refine kcc ?_|refine kjj kq5 ?_|refine kx hN ?_|refine kx hH ?_|apply kU);simp +decide only[go_sem,hlt,hw,hxi,hb8,Dcm.row]|apply kh<;>intro qa
   exact kmm
 ·intro hlt
  rw[wh]
  repeat' first|(first|refine kcc ?_|refine kjj kq5 ?_|apply kU);simp +decide only[go_sem,hlt]|apply kh<;>intro qa
  refine qw 6 _ (DLe.own_ _ _ _) ?_
  apply kF;simp +decide only[go_sem]
end Go.Proofs.YtaaodllggdjhiaaGreatDoor
namespace Go.Proofs.YtaaodllggdjhiaaGreatDoor
abbrev kpm7:List (Nat×Go.Dl.Mode):=[(0,.light),(1,.light),(2,.light),(3,.light),(4,.light),(5,.light),(6,.light),(7,.light),(8,.light),(9,.light),(10,.light),(11,.light),(12,.light),(13,.light),(14,.light),(15,.light),(16,.light),(17,.light),(18,.light),(19,.light),(20,.light),(21,.step),(22,.light),(23,.light),(24,.light)]
abbrev kpm8:List (Nat×Go.Dl.Mode):=[(0,.light),(1,.light),(2,.light),(3,.light),(4,.light),(5,.light),(6,.light),(7,.light),(8,.light),(9,.light),(10,.light),(11,.light),(12,.light),(13,.light),(14,.light),(15,.light),(16,.light),(17,.light),(18,.light),(19,.light),(20,.light),(21,.light),(22,.step),(23,.light),(24,.light),(25,.light)]
abbrev kpm9:List (Nat×Go.Dl.Mode):=[(0,.light),(1,.light),(2,.light),(3,.light),(4,.light),(5,.step),(6,.step),(7,.light)]
abbrev kq6:Nat->List (Nat×Go.Dl.Mode):=fun n=>match n with|11=>kpm7|_=>[]
abbrev kq7:Nat->List (Nat×Go.Dl.Mode):=fun n=>match n with|11=>kpm8|_=>[]
abbrev kq8:Nat->List (Nat×Go.Dl.Mode):=fun n=>match n with|1=>kpm9|_=>[]
end Go.Proofs.YtaaodllggdjhiaaGreatDoor
namespace Go.Proofs.YtaaodllggdjhiaaGreatDoor
open Go.Dl
open S (usort)
attribute [local irreducible] DW DCalls ECalls qo wk IW
theorem qhw{α:Type}(q:α->Bool){l:List α}{k:Nat}{x:α}(h:l.take (k+1)=l.take k++[x]):(l.take (k+1)).any q=((l.take k).any q||q x):=by rw[h,List.any_append];simp
theorem qmD(d:Dcm)(W:WfD d)(a b:List Int)(hl:d.notes.length<=10000)(ht:d.tiers.length<=10000)(ha:a.length<=1000000)(hb:b.length<=1000000):DCalls pP 52 [.agg d.row,dv (.sl 1 (ints a)),dv (.sl 1 (ints b))] (dv (.sl 1 (ints (qhF d a b)))):=by
 have qK:=kmax
 have n1:=ZO d a hl ha
 have n2:=ZO d b hl hb
 have l1:=WfD.notesI_len (d:=d) a
 have l2:=WfD.notesI_len (d:=d) b
 unfold qhF
 generalize qI d a=A at*
 generalize qI d b=B at*
 simp only[Dcm.row]at n1 n2
 refine kd (N:=64) (rs:=[.tmp 6]) Tryz.func52 ?_
 repeat' first|(first|refine kcc ?_|refine kjj kq6 ?_|refine kx n1 ?_|refine kx n2 ?_|apply kU);simp +decide only[go_sem,Dcm.row]|apply kh<;>intro qa
 refine zl 7 7 1 (by simp +decide only[go_sem]) ?_
 refine qj A (fun k=>kn 64 [(3,.one (.bx 3 7 0 0)),(7,.one (.own 7 1 (ints ((A.take k).filter fun i=>B.any fun k=>k !=i&&Zp (d.wher k).1 (d.wher i).1)))),(8,dv (.sl 1 (ints A))),(9,dv (.sl 1 (ints B))),(10,dv (li k))] (ml [(3,[d.row])])) (by omega) (kM rfl (by simp +decide only[go_sem,wg,yi,wn]) (by simp +decide only[go_sem,Dcm.row])) ?_ ?_
 ·intro k x hx hk hm htk hlt hw
  have hxi:=qp hx
  have hfl:=qfr (fun i=>B.any fun k=>k !=i&&Zp (d.wher k).1 (d.wher i).1) A k
  rw[qcj _ htk]
  generalize (A.take k).filter (fun i=>B.any fun k=>k !=i&&Zp (d.wher k).1 (d.wher i).1)=p at hfl ⊢
  have hb8:((p.length+1)*8<=140737488355328)=True:=eq_true (by omega)
  repeat' first|(first|refine kcc ?_|refine kjj kq6 ?_|apply kU);simp +decide only[go_sem,hlt]|apply kh<;>intro qa
  refine vz (fun _:Unit=>kn 64 [(3,.one (.bx 3 7 0 0)),(7,.one (.own 7 1 (ints p))),(8,dv (.sl 1 (ints A))),(9,dv (.sl 1 (ints B))),(10,dv (li k)),(11,dv (lb (B.any fun k=>k !=x&&Zp (d.wher k).1 (d.wher x).1)))] (ml [(3,[d.row])])) (fun _=>True) ?_ ?_
  ·refine qj B (fun m=>kn 64 [(3,.one (.bx 3 7 0 0)),(7,.one (.own 7 1 (ints p))),(8,dv (.sl 1 (ints A))),(9,dv (.sl 1 (ints B))),(10,dv (li k)),(11,dv (lb ((B.take m).any fun k=>k !=x&&Zp (d.wher k).1 (d.wher x).1))),(12,dv (li m))] (ml [(3,[d.row])])) (by omega) (kM rfl (by simp +decide only[go_sem,wg,List.any_nil]) (by simp +decide only[go_sem,Dcm.row])) ?_ ?_
   ·intro m y hy hmk hmm htm Zu hw2
    have hyi:=qp hy
    have hC:=rCont_D d W y x hl ht
    simp only[Dcm.row]at hC
    rw[qhw _ htm]
    cases t1:(B.take m).any fun k=>k !=x&&Zp (d.wher k).1 (d.wher x).1
    ·cases t2:y !=x
     ·repeat' first|(first|refine kcc ?_|refine kjj kq6 ?_|refine kx hC ?_|apply kU);simp +decide only[go_sem,Zu,hw2,hxi,hyi,t2,Dcm.row]|apply kh<;>intro qa
      exact kmm
     ·repeat' first|(first|refine kcc ?_|refine kjj kq6 ?_|refine kx hC ?_|apply kU);simp +decide only[go_sem,Zu,hw2,hxi,hyi,t2,Dcm.row]|apply kh<;>intro qa
      exact kmm
    ·repeat' first|(first|refine kcc ?_|refine kjj kq6 ?_|refine kx hC ?_|apply kU);simp +decide only[go_sem,Zu,hw2,Dcm.row]|apply kh<;>intro qa
     exact kmm
   ·intro Zu
    rw[wh]
    repeat' first|(first|refine kcc ?_|refine kjj kq6 ?_|apply kU);simp +decide only[go_sem,Zu]|apply kh<;>intro qa
    exact⟨(),km (by simp +decide only[go_sem,Dcm.row])⟩
  rintro _ _
  cases t3:B.any fun k=>k !=x&&Zp (d.wher k).1 (d.wher x).1
  ·repeat' first|(first|refine kcc ?_|refine kjj kq6 ?_|apply kU);simp +decide only[go_sem,hw,Dcm.row]|apply kh<;>intro qa
   exact kmm
  ·repeat' first|(first|refine kcc ?_|refine kjj kq6 ?_|apply kU);simp +decide only[go_sem,hw,hxi,hb8,Dcm.row]|apply kh<;>intro qa
   exact kmm
 ·intro hlt
  rw[wh]
  repeat' first|(first|refine kcc ?_|refine kjj kq6 ?_|apply kU);simp +decide only[go_sem,hlt]|apply kh<;>intro qa
  refine qw 6 _ (DLe.own_ _ _ _) ?_
  apply kF;simp +decide only[go_sem]
theorem qpO(d:Dcm)(W:WfD d)(a b:List Int)(hl:d.notes.length<=10000)(ht:d.tiers.length<=10000)(ha:a.length<=1000000)(hb:b.length<=1000000):DCalls pP 53 [.agg d.row,dv (.sl 1 (ints a)),dv (.sl 1 (ints b))] (dv (.sl 1 (ints (hasE d a b)))):=by
 have qK:=kmax
 have n1:=ZO d a hl ha
 have n2:=ZO d b hl hb
 have l1:=WfD.notesI_len (d:=d) a
 have l2:=WfD.notesI_len (d:=d) b
 have hco: ∀k∈qI d b,∀i,(k !=i&&inL (d.chain k) i)=inL ((d.chain k).drop 1) i:=fun k hk i=>qiH W (WfD.notesI_mem.1 hk).1
 unfold hasE
 generalize qI d a=A at*
 generalize qI d b=B at*
 have hfe:(A.filter fun i=>B.any fun k=>inL ((d.chain k).drop 1) i)=A.filter fun i=>B.any fun k=>k !=i&&inL (d.chain k) i:=by
  refine List.filter_congr fun i _=>?_
  rw[yH,yo,yo]
  exact⟨fun⟨k,hk,h⟩=>⟨k,hk,by rw[hco k hk i];exact h⟩,fun⟨k,hk,h⟩=>⟨k,hk,by rw[<-hco k hk i];exact h⟩⟩
 rw[hfe]
 simp only[Dcm.row]at n1 n2
 refine kd (N:=65) (rs:=[.tmp 6]) Tryz.func53 ?_
 repeat' first|(first|refine kcc ?_|refine kjj kq7 ?_|refine kx n1 ?_|refine kx n2 ?_|apply kU);simp +decide only[go_sem,Dcm.row]|apply kh<;>intro qa
 refine zl 7 7 1 (by simp +decide only[go_sem]) ?_
 refine qj A (fun k=>kn 65 [(3,.one (.bx 3 7 0 0)),(7,.one (.own 7 1 (ints ((A.take k).filter fun i=>B.any fun k=>k !=i&&inL (d.chain k) i)))),(8,dv (.sl 1 (ints A))),(9,dv (.sl 1 (ints B))),(10,dv (li k))] (ml [(3,[d.row])])) (by omega) (kM rfl (by simp +decide only[go_sem,wg,yi,wn]) (by simp +decide only[go_sem,Dcm.row])) ?_ ?_
 ·intro k x hx hk hm htk hlt hw
  have hxi:=qp hx
  have hfl:=qfr (fun i=>B.any fun k=>k !=i&&inL (d.chain k) i) A k
  rw[qcj _ htk]
  generalize (A.take k).filter (fun i=>B.any fun k=>k !=i&&inL (d.chain k) i)=p at hfl ⊢
  have hb8:((p.length+1)*8<=140737488355328)=True:=eq_true (by omega)
  repeat' first|(first|refine kcc ?_|refine kjj kq7 ?_|apply kU);simp +decide only[go_sem,hlt]|apply kh<;>intro qa
  refine vz (fun _:Unit=>kn 65 [(3,.one (.bx 3 7 0 0)),(7,.one (.own 7 1 (ints p))),(8,dv (.sl 1 (ints A))),(9,dv (.sl 1 (ints B))),(10,dv (li k)),(11,dv (lb (B.any fun k=>k !=x&&inL (d.chain k) x)))] (ml [(3,[d.row])])) (fun _=>True) ?_ ?_
  ·refine qj B (fun m=>kn 65 [(3,.one (.bx 3 7 0 0)),(7,.one (.own 7 1 (ints p))),(8,dv (.sl 1 (ints A))),(9,dv (.sl 1 (ints B))),(10,dv (li k)),(11,dv (lb ((B.take m).any fun k=>k !=x&&inL (d.chain k) x))),(12,dv (li m))] (ml [(3,[d.row])])) (by omega) (kM rfl (by simp +decide only[go_sem,wg,List.any_nil]) (by simp +decide only[go_sem,Dcm.row])) ?_ ?_
   ·intro m y hy hmk hmm htm Zu hw2
    have hyi:=qp hy
    have hC:=qeZ d W y (by omega) (by omega)
    have hcl:(d.chain y).length<=d.tiers.length:=by unfold Dcm.chain;rw[we];exact W.up_le y
    have hH:DCalls pP 92 [dv (.sl 1 (ints (d.chain y))),dv (li x)] (dv (lb (inL (d.chain y) x))):=ZA (d.chain y) x (by omega)
    simp only[Dcm.row]at hC
    rw[qhw _ htm]
    cases t1:(B.take m).any fun k=>k !=x&&inL (d.chain k) x
    ·cases t2:y !=x
     ·repeat' first|(first|refine kcc ?_|refine kjj kq7 ?_|refine kx hC ?_|refine kx hH ?_|apply kU);simp +decide only[go_sem,Zu,hw2,hxi,hyi,t2,Dcm.row]|apply kh<;>intro qa
      exact kmm
     ·repeat' first|(first|refine kcc ?_|refine kjj kq7 ?_|refine kx hC ?_|refine kx hH ?_|apply kU);simp +decide only[go_sem,Zu,hw2,hxi,hyi,t2,Dcm.row]|apply kh<;>intro qa
      exact kmm
    ·repeat' first|(first|refine kcc ?_|refine kjj kq7 ?_|refine kx hC ?_|refine kx hH ?_|apply kU);simp +decide only[go_sem,Zu,hw2,Dcm.row]|apply kh<;>intro qa
     exact kmm
   ·intro Zu
    rw[wh]
    repeat' first|(first|refine kcc ?_|refine kjj kq7 ?_|apply kU);simp +decide only[go_sem,Zu]|apply kh<;>intro qa
    exact⟨(),km (by simp +decide only[go_sem,Dcm.row])⟩
  rintro _ _
  cases t3:B.any fun k=>k !=x&&inL (d.chain k) x
  ·repeat' first|(first|refine kcc ?_|refine kjj kq7 ?_|apply kU);simp +decide only[go_sem,hw,Dcm.row]|apply kh<;>intro qa
   exact kmm
  ·repeat' first|(first|refine kcc ?_|refine kjj kq7 ?_|apply kU);simp +decide only[go_sem,hw,hxi,hb8,Dcm.row]|apply kh<;>intro qa
   exact kmm
 ·intro hlt
  rw[wh]
  repeat' first|(first|refine kcc ?_|refine kjj kq7 ?_|apply kU);simp +decide only[go_sem,hlt]|apply kh<;>intro qa
  refine qw 6 _ (DLe.own_ _ _ _) ?_
  apply kF;simp +decide only[go_sem]
theorem qgl(d:Dcm)(W:WfD d)(hu:qdH d.tiers){role:Int}(h1:1<=role)(hl:d.notes.length<=10000)(ht:d.tiers.length<=10000):DCalls pP 50 [.agg d.row,dv (li role)] (dv (.sl 1 (ints (QA d role)))):=by
 have hR:=qmI d.tiers role (by omega)
 have hO:=rOf_D d W (qeS d.tiers role) hl
 have hol:(d.of (qeS d.tiers role)).length<=d.notes.length:=by
  unfold Dcm.of;rw[we,<-qfI];exact qcr d _ _
 have hS:=qcN (d.of (qeS d.tiers role)) (by omega)
 rw[qpD W hu h1]at hS
 simp only[Dcm.row]at hO
 refine kd (N:=12) (rs:=[.tmp 4]) Tryz.func50 ?_
 repeat' first|(first|refine kcc ?_|refine kjj kq8 ?_|refine kx hR ?_|refine kx hO ?_|refine kx hS ?_|apply kU|apply kF);simp only[go_sem,Dcm.row]|apply kh<;>intro qa
end Go.Proofs.YtaaodllggdjhiaaGreatDoor
namespace Go.Proofs.YtaaodllggdjhiaaGreatDoor
open Go.Dl
attribute [local irreducible] DW DCalls ECalls qo wk IW
theorem qbr(s:ByteArray):ptsI s=if okS s=true then some (ptsR s)else none:=by
 unfold ptsI ptsR okS
 rw[<-qcS]
 cases ptsL s.data.toList<;>simp[nl]
theorem qaI(s:ByteArray):(ptsR s).length<=s.size:=by
 have key: ∀(n:Nat) (bs:List UInt8),bs.length<=n->((ptsL bs).getD []).length<=bs.length:=by
  intro n
  induction n with
  | zero=>intro bs h;rw[yh.1 (Nat.le_zero.1 h)];simp[ZP]
  | succ n ih=>
   intro bs h
   cases bs with
   | nil=>simp[ZP]
   | cons b bs=>
    cases hf:fstL (b::bs)with
    | none=>rw[ZQ (by simp) hf];simp
    | some d=>
     obtain⟨p,k⟩:=d
     have hw:=vV hf
     rw[QP hf]
     have:=ih ((b::bs).drop k) (by simp only[yc,wz]at *;omega)
     cases hq:ptsL ((b::bs).drop k)with
     | none=>simp
     | some l=>rw[hq]at this;simp only[yP,yc,wz,w4]at *;omega
 have:=key s.size s.data.toList (by simp)
 unfold ptsR nl;simpa using this
theorem qfW(a:Int)(r:List Int):tokL (a::r)=if a<32\/a=127 then none else if a=92 then(match r with| []=>none|b::r'=>if spcl b=true then(tokL r').map (b:: ·)else none)else(tokL r).map ((if a=42 then -1 else if a=63 then -2 else a):: ·):=by rw[tokL.eq_def];cases r<;>rfl
def errT(p:ByteArray):Int:=if p.size=0 then 4 else if 64<p.size then 5 else if(patT p).isSome=true then 0 else 3
def tokD(p:ByteArray):D:=match patT p with
 | some t=>dv (.sl 1 (ints t))
 | none=>dv (.lit (.slice none 0 0))
theorem qkA(n:Int):DCalls pP 164 [dv (li n)] (dv (lb (spcl n))):=by
 refine kd (N:=13) (rs:=[.tmp 2]) Tryz.func164 ?_
 repeat' first|(first|refine kcc ?_|apply kU|apply kF);simp only[go_sem]|apply kh<;>intro qa|((first|apply kH|apply kI)<;>(intro qa;simp only[go_sem,qa]))
 all_goals(simp_all [spcl];try (rw[yH];simp))
theorem qgk(p:ByteArray)(hs:p.size<=1048576):DCalls pP 126 [dv (ls p)] (.tup [tokD p,dv (li (errT p))]):=by
 have qK:=kmax
 have hP:=qaH p hs
 have he:(p==({ data:= #[] }:ByteArray))=(p.size==0):=by
  rw[yH,ZZ]
  constructor
  ·intro h;subst h;rfl
  ·intro h
   have h0:p.size=0:=by simpa using h
   cases p with|mk d=>
   have:d= #[]:=Array.eq_empty_of_size_eq_zero h0
   subst this;rfl
 refine kd (N:=73) (rs:=[.tmp 2,.tmp 3]) Tryz.func126 ?_
 cases t0:p.size==0
 rotate_left
 ·rw[t0]at he
  have h0:p.size=0:=by simpa using t0
  repeat' first|(first|refine kcc ?_|apply kU|apply kF);simp +decide only[go_sem,he]|apply kh<;>intro qa
  simp[tokD,errT,patT,h0]
 have h0: ¬p.size=0:=by simpa using t0
 rw[t0]at he
 cases t1:decide ((64:Int)<(p.size:Int))
 rotate_left
 ·have h1:64<p.size:=by simp at t1;omega
  repeat' first|(first|refine kcc ?_|apply kU|apply kF);simp +decide only[go_sem,he,t1]|apply kh<;>intro qa
  simp[tokD,errT,patT,h0,h1]
 have h1: ¬64<p.size:=by simp at t1;omega
 have hpi:=qbr p
 have hpt:patT p=(ptsI p).bind tokL:=by unfold patT;rw[if_neg (by omega)]
 cases t2:okS p
 ·rw[t2,if_neg (by decide)]at hpi
  rw[hpi]at hpt
  repeat' first|(first|refine kcc ?_|refine kx hP ?_|apply kU|apply kF);simp +decide only[go_sem,he,t1,t2]|apply kh<;>intro qa
  simp[tokD,errT,hpt,h0,h1]
 rw[t2,if_pos rfl]at hpi
 rw[hpi]at hpt
 have hpt':patT p=tokL (ptsR p):=hpt
 have hll:=qaI p
 have qbg: ∀t,patT p=some t->tokD p=dv (.sl 1 (ints t))/\errT p=0:=fun t ht=>by simp[tokD,errT,ht,h0,h1]
 have hbad:patT p=none->tokD p=dv (.lit (.slice none 0 0))/\errT p=3:=fun ht=>by simp[tokD,errT,ht,h0,h1]
 rw[hpt']at qbg hbad
 generalize ptsR p=l at*
 repeat' first|(first|refine kcc ?_|refine kx hP ?_|apply kU);simp +decide only[go_sem,he,t1,t2]|apply kh<;>intro qa
 refine qau 6 6 1 [] (by simp +decide only[go_sem]) ?_
 refine qk (fun y:Nat×List Int=>kn 73 [(4,dv (.sl 1 (ints l))),(6,.one (.own 6 1 (ints y.2))),(7,dv (li y.1))] qc)
  (fun y=>y.1<=l.length/\y.2.length<=y.1/\tokL l=(tokL (l.drop y.1)).map fun r=>y.2++r) (fun y=>l.length - y.1) (0,[]) (kL rfl (by simp +decide only[go_sem,wn]) (by simp[qc])) ⟨by omega,by simp,by simp⟩ ?_
 rintro⟨i,o⟩ ⟨g1,g2,g3⟩
 simp only at g1 g2 g3 ⊢
 cases c0:decide ((i:Int)<(l.length:Int))
 ·have hie:i=l.length:=by simp at c0;omega
  have hd:l.drop i= []:=by rw[hie];simp
  rw[hd]at g3
  have:=qbg o (by rw[g3];simp[tokL])
  rw[this.1,this.2]
  repeat' first|(first|refine kcc ?_|apply kU);simp +decide only[go_sem,c0]|apply kh<;>intro qa
  refine qw 2 (dv (.sl 1 (ints o))) (by simp +decide only[go_sem]) ?_
  apply kF;simp +decide only[go_sem]
 have hil:i<l.length:=by simp at c0;omega
 obtain⟨a,ha⟩: ∃a,l[i]? =some a:=⟨_,wc hil⟩
 have hxa:=qp ha
 have hda:l.drop i=a::l.drop (i+1):=by rw[wL hil];congr 1;rw[wc hil]at ha;injection ha
 rw[hda]at g3
 have w1:=qt i (by omega)
 have hb8:((o.length+1)*8<=140737488355328)=True:=eq_true (by omega)
 rw[qfW]at g3
 cases c1:decide (a<32)
 rotate_left
 ·rw[if_pos (.inl (by simpa using c1))]at g3
  have:=hbad (by rw[g3];rfl)
  rw[this.1,this.2]
  repeat' first|(first|refine kcc ?_|apply kU|apply kF);simp +decide only[go_sem,c0,hxa,c1]|apply kh<;>intro qa
 cases c2:a==127
 rotate_left
 ·rw[if_pos (.inr (by simpa using c2))]at g3
  have:=hbad (by rw[g3];rfl)
  rw[this.1,this.2]
  repeat' first|(first|refine kcc ?_|apply kU|apply kF);simp +decide only[go_sem,c0,hxa,c1,c2]|apply kh<;>intro qa
 rw[if_neg (by simp at c1 c2;omega)]at g3
 cases c3:a==92
 ·rw[if_neg (by simpa using c3)]at g3
  cases c4:a==42
  ·rw[if_neg (by simpa using c4)]at g3
   cases c5:a==63
   ·rw[if_neg (by simpa using c5)]at g3
    repeat' first|(first|refine kcc ?_|apply kU);simp +decide only[go_sem,c0,hxa,c1,c2,c3,c4,c5,w1,hb8]|apply kh<;>intro qa
    refine⟨(i+1,o++[a]),⟨by simp only;omega,by simp;omega,?_⟩,by simp only;omega,kL rfl (by simp +decide only[go_sem,ints,wJ,wt,wn]) (by simp[qc])⟩
    simp only
    rw[g3];cases tokL (l.drop (i+1))<;>simp
   ·rw[if_pos (by simpa using c5)]at g3
    repeat' first|(first|refine kcc ?_|apply kU);simp +decide only[go_sem,c0,hxa,c1,c2,c3,c4,c5,w1,hb8]|apply kh<;>intro qa
    refine⟨(i+1,o++[-2]),⟨by simp only;omega,by simp;omega,?_⟩,by simp only;omega,kL rfl (by simp +decide only[go_sem,ints,wJ,wt,wn]) (by simp[qc])⟩
    simp only
    rw[g3];cases tokL (l.drop (i+1))<;>simp
  ·rw[if_pos (by simpa using c4)]at g3
   repeat' first|(first|refine kcc ?_|apply kU);simp +decide only[go_sem,c0,hxa,c1,c2,c3,c4,w1,hb8]|apply kh<;>intro qa
   refine⟨(i+1,o++[-1]),⟨by simp only;omega,by simp;omega,?_⟩,by simp only;omega,kL rfl (by simp +decide only[go_sem,ints,wJ,wt,wn]) (by simp[qc])⟩
   simp only
   rw[g3];cases tokL (l.drop (i+1))<;>simp
 ·rw[if_pos (by simpa using c3)]at g3
  have w2:=qt (i+1) (by omega)
  cases c4:(((i+1:Nat):Int)==(l.length:Int))
  rotate_left
  ·have hie:i+1=l.length:=by simp at c4;omega
   have hd:l.drop (i+1)= []:=by rw[hie];simp
   rw[hd]at g3
   have:=hbad (by rw[g3];rfl)
   rw[this.1,this.2]
   repeat' first|(first|refine kcc ?_|apply kU|apply kF);simp +decide only[go_sem,c0,hxa,c1,c2,c3,c4,w1]|apply kh<;>intro qa
  have hil2:i+1<l.length:=by simp at c4;omega
  obtain⟨b,hb⟩: ∃b,l[i+1]? =some b:=⟨_,wc hil2⟩
  have hxb:=qp hb
  have hdb:l.drop (i+1)=b::l.drop (i+2):=by rw[wL hil2];congr 1;rw[wc hil2]at hb;injection hb
  rw[hdb]at g3
  have hS:=qkA b
  cases c5:spcl b
  ·rw[c5]at hS
   simp only[c5]at g3
   rw[if_neg (by decide)]at g3
   have:=hbad (by rw[g3];rfl)
   rw[this.1,this.2]
   repeat' first|(first|refine kcc ?_|refine kx hS ?_|apply kU|apply kF);simp +decide only[go_sem,c0,hxa,hxb,c1,c2,c3,c4,w1]|apply kh<;>intro qa
  ·rw[c5]at hS
   simp only[c5,if_true]at g3
   repeat' first|(first|refine kcc ?_|refine kx hS ?_|apply kU);simp +decide only[go_sem,c0,hxa,hxb,c1,c2,c3,c4,w1,w2,hb8]|apply kh<;>intro qa
   refine⟨(i+2,o++[b]),⟨by simp only;omega,by simp;omega,?_⟩,by simp only;omega,kL rfl (by simp +decide only[go_sem,ints,wJ,wt,wn]) (by simp[qc])⟩
   simp only
   rw[g3];cases tokL (l.drop (i+2))<;>simp
end Go.Proofs.YtaaodllggdjhiaaGreatDoor
namespace Go.Proofs.YtaaodllggdjhiaaGreatDoor
abbrev kpm10:List (Nat×Go.Dl.Mode):=[(0,.light),(1,.light),(2,.light),(3,.light),(4,.light),(5,.light),(6,.light),(7,.light),(8,.light),(9,.light),(10,.light),(11,.light),(12,.light),(13,.light),(14,.light),(15,.light),(16,.light),(17,.light),(18,.light),(19,.light),(20,.step)]
abbrev kq9:Nat->List (Nat×Go.Dl.Mode):=fun n=>match n with|17=>kpm10|_=>[]
end Go.Proofs.YtaaodllggdjhiaaGreatDoor
namespace Go.Proofs.YtaaodllggdjhiaaGreatDoor
open Go.Dl
attribute [local irreducible] DW DCalls ECalls qo wk IW
def vk(f:Nat->Bool)(n:Nat):Dl.Rows:=(List.range n).map fun i=>[T.c (lb (f i))]
theorem qq5(r:Ren)(f:Nat->Bool)(n:Nat):Dl.Rows.tr r (vk f n)=vk f n:=by simp[vk,Dl.Rows.tr,T.trAll,T.tr]
attribute [go_sem] qq5
theorem qa8(f:Nat->Bool)(n:Nat):(vk f n).length=n:=by simp[vk]
theorem vG(f:Nat->Bool){n i:Nat}(h:i<n):(vk f n)[i]? =some [T.c (lb (f i))]:=by simp[vk,h]
theorem Ql{f g:Nat->Bool}{n:Nat}(h: ∀i,i<n->f i=g i):vk f n=vk g n:=by
 unfold vk;exact List.map_congr_left fun i hi=>by rw[h i (y9.1 hi)]
theorem qdD(n:Nat):List.replicate n [T.c (lb false)]=vk (fun _=>false) n:=by simp[vk,List.map_const']
theorem qdC(f:Nat->Bool)(n j:Nat)(b:Bool):(vk f n).set j [T.c (lb b)]=vk (fun i=>if i=j then b else f i) n:=by
 apply List.ext_getElem?
 intro i
 rw[List.getElem?_set]
 by_cases hi:i<n
 ·rw[vG _ hi,vG _ hi]
  by_cases hij:j=i
  ·subst hij;rw[if_pos rfl,if_pos (by rw[qa8];exact hi),if_pos rfl]
  ·rw[if_neg hij,if_neg (Ne.symm hij)]
 ·have h1:(vk f n)[i]? =none:=wZ (by rw[qa8];omega)
  have h2:(vk (fun i=>if i=j then b else f i) n)[i]? =none:=wZ (by rw[qa8];omega)
  rw[h1,h2,qa8]
  by_cases hij:j=i
  ·rw[if_pos hij,if_neg (by omega)]
  ·rw[if_neg hij]
theorem qnh(g:Nat->Bool)(n j:Nat):(vk (fun i=>decide (i<j)&&g i) n).set j [T.c (lb (g j))]=vk (fun i=>decide (i<j+1)&&g i) n:=by
 rw[qdC]
 refine Ql fun i _=>?_
 by_cases h:i=j
 ·subst h;simp
 ·rw[if_neg h];have:decide (i<j)=decide (i<j+1):=by simp only[decide_eq_decide];omega
  rw[this]
theorem qng{g:Nat->Bool}{n j:Nat}(h:g j=false):vk (fun i=>decide (i<j)&&g i) n=vk (fun i=>decide (i<j+1)&&g i) n:=by
 refine Ql fun i _=>?_
 by_cases h':i=j
 ·subst h';simp[h]
 ·have:decide (i<j)=decide (i<j+1):=by simp only[decide_eq_decide];omega
  rw[this]
theorem qnf(g:Nat->Bool)(n:Nat):vk (fun _=>false) n=vk (fun i=>decide (i<0)&&g i) n:=Ql fun i _=>by simp
theorem qro(g:Nat->Bool)(n:Nat):vk (fun i=>decide (i<n)&&g i) n=vk g n:=Ql fun i h=>by simp[h]
theorem qg5{p:ByteArray}:(errT p !=0)=(patT p).isNone:=by
 unfold errT
 by_cases h0:p.size=0
 ·have:patT p=none:=by unfold patT;rw[if_pos (.inl h0)]
  rw[if_pos h0,this];rfl
 ·by_cases h1:64<p.size
  ·have:patT p=none:=by unfold patT;rw[if_pos (.inr h1)]
   rw[if_neg h0,if_pos h1,this];rfl
  ·rw[if_neg h0,if_neg h1]
   cases patT p<;>simp
theorem qeH: ∀(n:Nat) (l t:List Int),l.length<=n->tokL l=some t->t.length<=l.length
 | _,[],t,_,h=>by rw[tokL.eq_def]at h;injection h with h;subst h;simp
 | 0,a::r,t,hn,_=>by simp at hn
 | n+1,a::r,t,hn,h=>by
  rw[qfW]at h
  split at h
  ·cases h
  ·split at h
   ·cases r with
    | nil=>cases h
    | cons b r'=>
     simp only at h
     split at h
     ·cases ht:tokL r' with
      | none=>rw[ht]at h;cases h
      | some u=>
       rw[ht]at h;injection h with h;subst h
       have:=qeH n r' u (by simp at hn;omega) ht
       simp;omega
     ·cases h
   ·cases ht:tokL r with
    | none=>rw[ht]at h;cases h
    | some u=>
     rw[ht]at h;injection h with h;subst h
     have:=qeH n r u (by simp at hn;omega) ht
     simp;omega
theorem qp5{p:ByteArray}{t:List Int}(h:patT p=some t):t.length<=64:=by
 unfold patT at h
 split at h
 ·cases h
 ·rename_i hs
  rw[qbr]at h
  split at h
  ·have h1:=qeH _ _ _ (wv _) h
   have:=qaI p
   omega
  ·cases h
theorem qkO(p:ByteArray)(hs:p.size<=1048576):DCalls pP 65 [dv (ls p)] (dv (li (errT p))):=by
 have h:=qgk p hs
 unfold tokD at h
 cases ht:patT p with
 | none=> 
  rw[ht]at h
  refine kd (N:=11) (rs:=[.tmp 2]) Tryz.func65 ?_
  repeat' first|(first|refine kcc ?_|refine kx h ?_|apply kU|apply kF);simp only[go_sem]|apply kh<;>intro qa
 | some t=>
  rw[ht]at h
  refine kd (N:=11) (rs:=[.tmp 2]) Tryz.func65 ?_
  repeat' first|(first|refine kcc ?_|refine kx h ?_|apply kU|apply kF);simp only[go_sem]|apply kh<;>intro qa
theorem qkG(p s:ByteArray)(hp:p.size<=1048576)(hs:s.size<=100000):DCalls pP 101 [dv (ls p),dv (ls s)] (dv (lb (ql p s))):=by
 have qK:=kmax
 have hT:=qgk p hp
 have hP:=qaH s (by omega)
 have hpi:=qbr s
 have hll:=qaI s
 have h0:=qg5 (p:=p)
 unfold ql
 cases ht:patT p with
 | none=>
  rw[ht]at h0
  have h0':(errT p !=0)=true:=h0
  have htd:tokD p=dv (.lit (.slice none 0 0)):=by unfold tokD;rw[ht]
  rw[htd]at hT
  refine kd (N:=109) (rs:=[.tmp 4]) Tryz.func101 ?_
  repeat' first|(first|refine kcc ?_|refine kjj kq9 ?_|refine kx hT ?_|refine kx hP ?_|apply kU|apply kF);simp +decide only[go_sem,h0']|apply kh<;>intro qa
 | some t=>
  rw[ht]at h0
  have h0':(errT p !=0)=false:=h0
  have htd:tokD p=dv (.sl 1 (ints t)):=by unfold tokD;rw[ht]
  rw[htd]at hT
  rw[hpi]
  cases hok:okS s
  ·rw[hok]at hP
   refine kd (N:=109) (rs:=[.tmp 4]) Tryz.func101 ?_
   repeat' first|(first|refine kcc ?_|refine kjj kq9 ?_|refine kx hT ?_|refine kx hP ?_|apply kU|apply kF);simp +decide only[go_sem,h0']|apply kh<;>intro qa
  rw[hok]at hP
  rw[if_pos rfl]
  show DCalls _ _ _ (dv (lb (dpM t (ptsR s))))
  have htl:=qp5 ht
  generalize ptsR s=l at*
  have hw1:=qt l.length (by omega)
  have hw0:IntKind.i64.wrap 1=1:=by rw[wrap_i64 (by omega) (by omega)]
  have hb4:Tryz.t4.bytes*(l.length+1)<=281474976710656:=by
   have:Tryz.t4.bytes=1:=by kernel_rfl
   rw[this];omega
  refine kd (N:=109) (rs:=[.tmp 4]) Tryz.func101 ?_
  repeat' first|(first|refine kcc ?_|refine kjj kq9 ?_|refine kx hT ?_|refine kx hP ?_|apply kU);simp +decide only[go_sem,h0',hw1]|apply kh<;>intro qa
  refine StepC.mk (Step.makeSlice (n:=l.length+1) (e:=4) (z:=[T.c (lb false)]) (inf:=Tryz.t4) (kx:=.i64) (ky:=.i64) rfl rfl (by kernel_rfl) (by kernel_rfl) (by kernel_rfl) (by decide) (by kernel_rfl) (by simp +decide only[go_sem]) (by simp +decide only[go_sem]) (by simp;omega) hb4 (by omega) ?_)
  rw[qdD]
  simp +decide only[go_sem]
  have hz:(0<l.length+1)=True:=eq_true (by omega)
  have hr0:(vk (fun _=>false) (l.length+1))[0]? =some [T.c (lb false)]:=vG _ (by omega)
  repeat' first|(first|refine kcc ?_|refine kjj kq9 ?_|apply kU);simp +decide only[go_sem,hz,hr0,qdC,wj,ww]|apply kh<;>intro qa
  have hst0:vk (fun i=>if i=0 then true else false) (l.length+1)=vk (fun i=>i==0) (l.length+1):=Ql fun i _=>by by_cases h:i=0<;>simp[h]
  refine qj t (fun k=>kn 109 [(5,dv (.sl 1 (ints t))),(7,dv (.sl 1 (ints l))),(9,.one (.ba 32 1 0 (l.length+1) (l.length+1))),(10,dv (li k))] (ml [(32,vk (canM l (t.take k)) (l.length+1))])) (by omega) (km (by simp +decide only[go_sem,wg,canM,w9,hst0])) ?_ ?_
  ·intro k tok hx hk hm htk hlt hw
   have hxt:=qp hx
   rw[htk,qhl]
   generalize canM l (t.take k)=can
   obtain⟨g,hg⟩: ∃g,g=nxM l tok can:=⟨_,rfl⟩
   rw[<-hg]
   repeat' first|(first|refine kcc ?_|refine kjj kq9 ?_|apply kU);simp +decide only[go_sem,hlt,hw1]|apply kh<;>intro qa
   refine StepC.mk (Step.makeSlice (n:=l.length+1) (e:=4) (z:=[T.c (lb false)]) (inf:=Tryz.t4) (kx:=.i64) (ky:=.i64) rfl rfl (by kernel_rfl) (by kernel_rfl) (by kernel_rfl) (by decide) (by kernel_rfl) (by simp +decide only[go_sem]) (by simp +decide only[go_sem]) (by simp;omega) hb4 (by omega) ?_)
   rw[qdD,qnf g]
   simp +decide only[go_sem]
   repeat' first|(first|refine kcc ?_|refine kjj kq9 ?_|apply kU);simp +decide only[go_sem]|apply kh<;>intro qa
   refine vz (fun _:Unit=>kn 109 [(5,dv (.sl 1 (ints t))),(7,dv (.sl 1 (ints l))),(10,dv (li k)),(11,.one (.ba 44 1 0 (l.length+1) (l.length+1)))] (ml [(44,vk g (l.length+1))])) (fun _=>True) ?_ ?_
   ·refine qk (fun j:Nat=>kn 109 [(5,dv (.sl 1 (ints t))),(7,dv (.sl 1 (ints l))),(9,.one (.ba 32 1 0 (l.length+1) (l.length+1))),(10,dv (li k)),(11,.one (.ba 44 1 0 (l.length+1) (l.length+1))),(12,dv (li j))] (ml [(32,vk can (l.length+1)),(44,vk (fun i=>decide (i<j)&&g i) (l.length+1))])) (fun j=>j<=l.length+1) (fun j=>l.length+1 - j) 0 (kmm) (by omega) ?_
    intro j hj
    cases c0:decide ((j:Int)<=(l.length:Int))
    ·have hje:j=l.length+1:=by simp at c0;omega
     repeat' first|(first|refine kcc ?_|refine kjj kq9 ?_|apply kU);simp +decide only[go_sem,c0]|apply kh<;>intro qa
     exact⟨(),km (by simp +decide only[go_sem,hje,qro])⟩
    have hjl:j<l.length+1:=by simp at c0;omega
    have hjT:(j<l.length+1)=True:=eq_true hjl
    have hwj:=qt j (by omega)
    have hc:=vG can hjl
    cases c1:tok== -1
    ·have hne:tok≠ -1:=by simpa using c1
     cases j with
     | zero=>
      have t1:((0:Int)<((0:Nat):Int))=False:=by simp
      have hg0:g 0=false:=by rw[hg];simp[nxM,hne]
      repeat' first|(first|refine kcc ?_|refine kjj kq9 ?_|apply kU);simp +decide only[go_sem,hxt,c1]|apply kh<;>intro qa
      exact⟨1,by omega,by omega,kM rfl (by simp +decide only[go_sem,hw0]) (by simp +decide only[go_sem,qng hg0])⟩
     | succ m=>
      have t1:((0:Int)<((m+1:Nat):Int))=True:=eq_true (by omega)
      have w1:IntKind.i64.wrap (((m+1:Nat):Int) - 1)=(m:Int):=by rw[wrap_i64 (by omega) (by omega)];omega
      have hmT:(m<l.length+1)=True:=eq_true (by omega)
      have hcm:=vG can (show m<l.length+1 by omega)
      obtain⟨b,hb⟩: ∃b,l[m]? =some b:=⟨_,wc (by omega)⟩
      have hbi:=qp hb
      have hml:(m<l.length)=True:=eq_true (by omega)
      have hgm:g (m+1)=(can m&&(decide (tok= -2)||tok==b)):=by
       rw[hg,nxM,if_neg hne,hb]
       have e:(some b==some tok)=(tok==b):=by
        rw[yH];simp only[beq_iff_eq,Option.some.injEq];exact eq_comm
       rw[e]
      cases c2:can m
      ·have hg0:g (m+1)=false:=by rw[hgm,c2];rfl
       rw[c2]at hcm
       repeat' first|(first|refine kcc ?_|refine kjj kq9 ?_|apply kU);simp +decide only[go_sem,c0,hxt,c1,t1,w1,hwj,hmT,hcm]|apply kh<;>intro qa
       exact⟨m+1+1,by omega,by omega,km (by simp +decide only[go_sem,qng hg0])⟩
      ·rw[c2]at hcm
       have Qu:=qnh g (l.length+1) (m+1)
       have qdJ:(vk (fun i=>decide (i<m+1)&&g i) (l.length+1))[m+1]? =some [T.c (lb (decide (m+1<m+1)&&g (m+1)))]:=vG _ hjl
       cases c3:tok== -2
       ·have hgv:g (m+1)=(tok==b):=by
         have:decide (tok= -2)=false:=by simpa using c3
         rw[hgm,c2,yy,this,jH]
        rw[hgv]at Qu
        repeat' first|(first|refine kcc ?_|refine kjj kq9 ?_|apply kU);simp +decide only[go_sem,c0,hxt,c1,c3,t1,w1,hwj,hjT,hmT,hcm,hbi,qdJ,Qu,wj,ww]|apply kh<;>intro qa
        exact⟨m+1+1,by omega,by omega,kmm⟩
       ·have hgv:g (m+1)=true:=by
         have:decide (tok= -2)=true:=by simpa using c3
         rw[hgm,c2,yy,this,jC]
        rw[hgv]at Qu
        repeat' first|(first|refine kcc ?_|refine kjj kq9 ?_|apply kU);simp +decide only[go_sem,c0,hxt,c1,c3,t1,w1,hwj,hjT,hmT,hcm,qdJ,Qu,wj,ww]|apply kh<;>intro qa
        exact⟨m+1+1,by omega,by omega,kmm⟩
    ·have hte:tok= -1:=by simpa using c1
     have Qu:=qnh g (l.length+1) j
     have qdJ:(vk (fun i=>decide (i<j)&&g i) (l.length+1))[j]? =some [T.c (lb (decide (j<j)&&g j))]:=vG _ hjl
     cases c2:can j
     ·rw[c2]at hc
      cases j with
      | zero=>
       have t1:((0:Int)<((0:Nat):Int))=False:=by simp
       have hgv:g 0=false:=by rw[hg,nxM,c2,Bool.and_false]
       rw[hgv]at Qu
       repeat' first|(first|refine kcc ?_|refine kjj kq9 ?_|apply kU);simp +decide only[go_sem,hxt,c1,hjT,hc,qdJ,Qu,wj,ww]|apply kh<;>intro qa
       exact⟨1,by omega,by omega,kM rfl (by simp +decide only[go_sem,hw0]) (by simp +decide only[go_sem])⟩
      | succ m=>
       have t1:((0:Int)<((m+1:Nat):Int))=True:=eq_true (by omega)
       have w1:IntKind.i64.wrap (((m+1:Nat):Int) - 1)=(m:Int):=by rw[wrap_i64 (by omega) (by omega)];omega
       have hmT:(m<l.length+1)=True:=eq_true (by omega)
       have hgv:g (m+1)=g m:=by rw[hg,nxM,if_pos hte,c2,jH]
       have hrm:(vk (fun i=>decide (i<m+1)&&g i) (l.length+1))[m]? =some [T.c (lb (g m))]:=by
        rw[vG _ (by omega)];simp
       rw[hgv]at Qu
       repeat' first|(first|refine kcc ?_|refine kjj kq9 ?_|apply kU);simp +decide only[go_sem,c0,hxt,c1,t1,w1,hwj,hjT,hmT,hc,qdJ,hrm,Qu,wj,ww]|apply kh<;>intro qa
       exact⟨m+1+1,by omega,by omega,kmm⟩
     ·rw[c2]at hc
      have hgv:g j=true:=by
       rw[hg]
       cases j with
       | zero=>rw[nxM,c2,Bool.and_true];simpa using hte
       | succ m=>rw[nxM,if_pos hte,c2,jC]
      rw[hgv]at Qu
      repeat' first|(first|refine kcc ?_|refine kjj kq9 ?_|apply kU);simp +decide only[go_sem,c0,hxt,c1,hwj,hjT,hc,qdJ,Qu,wj,ww]|apply kh<;>intro qa
      exact⟨j+1,by omega,by omega,kmm⟩
   rintro - -
   repeat' first|(first|refine kcc ?_|refine kjj kq9 ?_|apply kU);simp +decide only[go_sem,hw]|apply kh<;>intro qa
   exact DS.Sub.trans (Qq 44 32 (by decide)) (kmm)
  ·intro hlt
   rw[wh]
   have hlT:(l.length<l.length+1)=True:=eq_true (by omega)
   have hc:=vG (canM l t) (show l.length<l.length+1 by omega)
   repeat' first|(first|refine kcc ?_|refine kjj kq9 ?_|apply kU|apply kF);simp +decide only[go_sem,hlt,hlT,hc]|apply kh<;>intro qa
   rfl
end Go.Proofs.YtaaodllggdjhiaaGreatDoor
namespace Go.Proofs.YtaaodllggdjhiaaGreatDoor
abbrev kpm11:List (Nat×Go.Dl.Mode):=[(0,.light),(1,.light),(2,.light),(3,.light),(4,.light),(5,.light),(6,.light),(7,.light),(8,.light),(9,.light),(10,.light),(11,.light),(12,.light),(13,.light),(14,.light),(15,.light),(16,.light)]
abbrev kq10:Nat->List (Nat×Go.Dl.Mode):=fun n=>match n with|1=>kpm11|_=>[]
end Go.Proofs.YtaaodllggdjhiaaGreatDoor
namespace Go.Proofs.YtaaodllggdjhiaaGreatDoor
open Go.Dl
attribute [local irreducible] DW DCalls ECalls qo wk IW
theorem qfu(l:List Qry):(Qry.encL l).length=l.length:=by rw[qcl,we]
theorem qfv{l:List Qry}{k:Nat}{op role:Int}{txt:ByteArray}{kids:List Qry}(h:l[k]? =some (.mk op role txt kids)):(Qry.encL l)[k]? =some [li op,li role,ls txt,.sl 4 (Qry.encL kids)]:=by
 rw[qcl,wq,h];rfl
theorem Zc: ∀(a b:List Qry),Qry.nodesL (a++b)=Qry.nodesL a+Qry.nodesL b
 | [],b=>by simp[Qry.nodesL]
 | q::a,b=>by rw[wH,Qry.nodesL,Qry.nodesL,Zc a b];omega
theorem qh6{l:List Qry}{k:Nat}{q:Qry}(h:l.take (k+1)=l.take k++[q]):Qry.nodesL (l.take (k+1))=Qry.nodesL (l.take k)+q.nodes:=by
 rw[h,Zc];simp[Qry.nodesL]
theorem qnk(l:List Qry)(k:Nat):Qry.nodesL (l.take k)<=Qry.nodesL l:=by
 have:=Zc (l.take k) (l.drop k);rw[List.take_append_drop]at this;omega
theorem ZW: ∀l:List Qry,l.length<=Qry.nodesL l
 | []=>by simp[Qry.nodesL]
 | q::l=>by rw[Qry.nodesL,wz];have:=ZW l;have:=QR q;omega
theorem qeY: ∀(n:Nat) (q:Qry),q.nodes<=n->n<=100000000->DCalls pP 6 [.agg q.row] (dv (li (q.nodes:Int)))
 | 0,q,h,_=>by have:=QR q;omega
 | n+1,.mk op role txt kids,h,hn=>by
  have qK:=kmax
  rw[Qry.nodes]at h ⊢
  have hlen:=ZW kids
  have hel:=qfu kids
  refine kd (N:=21) (rs:=[.tmp 2]) Tryz.func6 ?_
  repeat' first|(first|refine kcc ?_|apply kU);simp only[go_sem,Qry.row,hel]|apply kh<;>intro qa
  refine qj kids (fun k=>kn 21 [(1,.one (.bx 1 4 0 0)),(3,dv (li ((1+Qry.nodesL (kids.take k):Nat):Int))),(7,dv (li kids.length)),(8,dv (li k))] (ml [(1,[[.c (li op),.c (li role),.c (ls txt),.c (.sl 4 (Qry.encL kids))]])])) (by omega) (kM rfl (by simp only[go_sem,wg,Qry.nodesL]) (by simp only[go_sem])) ?_ ?_
  ·intro k y hy hk hm htk hlt hw
   have hyn:=Qg hm
   have hr:=qeY n y (by omega) (by omega)
   have hle:=qnk kids (k+1)
   rw[qh6 htk]at hle ⊢
   obtain⟨op',role',txt',kids'⟩:=y
   have hyi:=qfv hy
   rw[Qry.row]at hr
   generalize Qry.nodes (.mk op' role' txt' kids')=m at*
   have hw2:IntKind.i64.wrap (((1+Qry.nodesL (kids.take k):Nat):Int)+(m:Int))=((1+(Qry.nodesL (kids.take k)+m):Nat):Int):=by rw[wrap_i64 (by omega) (by omega)];omega
   repeat' first|(first|refine kcc ?_|refine kx hr ?_|apply kU);simp only[go_sem,hlt,hw,hw2,hyi]|apply kh<;>intro qa
   exact kmm
  ·intro hlt
   rw[wh]
   repeat' first|(first|refine kcc ?_|apply kU|apply kF);simp only[go_sem,hlt]|apply kh<;>intro qa
theorem qjo: ∀(n:Nat) (q:Qry),q.nodes<=n->n<=100000000->qo pP 23 [.agg q.row] (fun r=>∃x:Int,r=dv (li x))
 | 0,q,h,_=>by have:=QR q;omega
 | n+1,.mk op role txt kids,h,hn=>by
  have qK:=kmax
  rw[Qry.nodes]at h
  have hlen:=ZW kids
  have hel:=qfu kids
  refine vt (N:=22) (rs:=[.tmp 2]) (by kernel_rfl) Tryz.func23 rfl rfl rfl (by simp) ?_
  repeat' first|(first|refine kcc ?_|apply kU);simp only[go_sem,Qry.row,hel]|apply kh<;>intro qa
  refine qk (fun y:Nat×Int=>kn 22 [(1,.one (.bx 1 4 0 0)),(3,dv (li y.2)),(7,dv (li kids.length)),(8,dv (li y.1))] (ml [(1,[[.c (li op),.c (li role),.c (ls txt),.c (.sl 4 (Qry.encL kids))]])])) (fun y=>y.1<=kids.length) (fun y=>kids.length - y.1) (0,0) (kmm) (by simp) ?_
  rintro⟨k,x⟩ hk
  simp only at hk ⊢
  have hw:=qt k (by omega)
  cases hlt:decide ((k:Int)<(kids.length:Int))
  ·repeat' first|(first|refine kcc ?_|apply kU);simp only[go_sem,hlt]|apply kh<;>intro qa
   apply kF;simp only[go_sem]
   exact⟨_,rfl⟩
  ·have hkl:k<kids.length:=by simp at hlt;omega
   obtain⟨y,hy⟩: ∃y,kids[k]? =some y:=⟨_,wc hkl⟩
   have hyn:=Qg (wl hy)
   have hr:=qjo n y (by omega) (by omega)
   obtain⟨op',role',txt',kids'⟩:=y
   have hyi:=qfv hy
   rw[Qry.row]at hr
   repeat' first|(first|refine kcc ?_|apply kU);simp only[go_sem,hlt,hyi]|apply kh<;>intro qa
   refine CallC.nd (caps:=[]) (hr) (by simp only[go_sem]) (kP (by simp only[go_sem])) ?_
   rintro _ ⟨m,rfl⟩
   simp only[go_sem]
   repeat' first|(first|refine kcc ?_|apply kU);simp only[go_sem,hw]|apply kh<;>intro qa
   exact⟨(k+1,if x<m then m else x),by simp only;omega,by simp only;omega,kmm⟩
theorem qmN(op:Int):DCalls pP 64 [dv (li op)] (dv (li (kidsN op:Int))):=by
 refine kd (N:=8) (rs:=[.tmp 2]) Tryz.func64 ?_
 repeat' first|(first|refine kcc ?_|apply kU|apply kF);simp only[go_sem]|apply kh<;>intro qa
 all_goals(simp_all [kidsN])
theorem qne{pk:ByteArray->Bool}: ∀{l:List Qry},(∀q∈l,q.ok pk=true)->Qry.okL pk l=true
 | [],_=>rfl
 | q::l,h=>by rw[Qry.okL,h q (by simp),qne fun x hx=>h x (by simp[hx])];rfl
theorem qcC: ∀{l:List Qry} {q:Qry},q∈l->q.size<=Qry.sizeL l
 | a::l,q,h=>by
  rw[Qry.sizeL]
  rcases ws.1 h with rfl|h
  ·omega
  ·have:=qcC h;omega
abbrev pkB(p:ByteArray):Bool:=(patT p).isSome
theorem qhY(B:Nat)(hB:B<=1048576): ∀(n:Nat) (q:Qry),q.nodes<=n->n<=100000000->q.size<=B->qo pP 24 [.agg q.row] (fun r=>∃e:Int,r=dv (li e)/\(e=0->q.ok pkB=true))
 | 0,q,h,_,_=>by have:=QR q;omega
 | n+1,.mk op role txt kids,h,hn,hs=>by
  have qK:=kmax
  rw[Qry.nodes]at h
  rw[Qry.size]at hs
  have hlen:=ZW kids
  have hel:=qfu kids
  have qli:=qmN op
  have hc34:=qkO txt (by omega)
  have herr:=qg5 (p:=txt)
  refine vt (N:=66) (rs:=[.tmp 2]) (by kernel_rfl) Tryz.func24 rfl rfl rfl (by simp) ?_
  cases t1:decide (op<0)
  rotate_left
  ·repeat' first|(first|refine kcc ?_|refine kjj kq10 ?_|refine kx qli ?_|apply kU);simp only[go_sem,Qry.row,t1]|apply kh<;>intro qa
   apply kF;simp only[go_sem]
   exact⟨28,rfl,fun h=>absurd h (by decide)⟩
  cases t2:decide ((6:Int)<op)
  rotate_left
  ·repeat' first|(first|refine kcc ?_|refine kjj kq10 ?_|refine kx qli ?_|apply kU);simp only[go_sem,Qry.row,t1,t2]|apply kh<;>intro qa
   apply kF;simp only[go_sem]
   exact⟨28,rfl,fun h=>absurd h (by decide)⟩
  cases t3:((kids.length:Int)!=(kidsN op:Int))
  rotate_left
  ·repeat' first|(first|refine kcc ?_|refine kjj kq10 ?_|refine kx qli ?_|apply kU);simp only[go_sem,Qry.row,hel,t1,t2,t3]|apply kh<;>intro qa
   apply kF;simp only[go_sem]
   exact⟨28,rfl,fun h=>absurd h (by decide)⟩
  have hop0:0<=op:=by simp at t1;omega
  have hop6:op<=6:=by simp at t2;omega
  have hkl:kids.length=kidsN op:=by simp at t3;omega
  cases t4:op==0
  ·have hn0:op≠0:=by simpa using t4
   cases t5:op==3
   ·have hn3:op≠3:=by simpa using t5
    cases t6:role !=0
    rotate_left
    ·repeat' first|(first|refine kcc ?_|refine kjj kq10 ?_|refine kx qli ?_|apply kU);simp only[go_sem,Qry.row,hel,t1,t2,t3,t4,t5,t6]|apply kh<;>intro qa
     apply kF;simp only[go_sem]
     exact⟨2,rfl,fun h=>absurd h (by decide)⟩
    cases t7:txt==⟨#[]⟩
    ·repeat' first|(first|refine kcc ?_|refine kjj kq10 ?_|refine kx qli ?_|apply kU);simp only[go_sem,Qry.row,hel,t1,t2,t3,t4,t5,t6,t7,yB]|apply kh<;>intro qa
     apply kF;simp only[go_sem]
     exact⟨1,rfl,fun h=>absurd h (by decide)⟩
    repeat' first|(first|refine kcc ?_|refine kjj kq10 ?_|refine kx qli ?_|apply kU);simp only[go_sem,Qry.row,hel,t1,t2,t3,t4,t5,t6,t7,wT]|apply kh<;>intro qa
    refine qC kids (fun k=>kn 66 [(1,.one (.bx 1 4 0 0)),(52,dv (li kids.length)),(53,dv (li k))] (ml [(1,[[.c (li op),.c (li role),.c (ls txt),.c (.sl 4 (Qry.encL kids))]])])) (fun k=>∀q∈kids.take k,q.ok pkB=true) (by omega) (kmm) (by simp) ?_ ?_
    ·intro k y hy hk hm htk hlt hw hi
     have hyn:=Qg hm
     have hys:=qcC hm
     have hr:=qhY B hB n y (by omega) (by omega) (by omega)
     obtain⟨op',role',txt',kids'⟩:=y
     have hyi:=qfv hy
     rw[Qry.row]at hr
     repeat' first|(first|refine kcc ?_|refine kjj kq10 ?_|apply kU);simp only[go_sem,hlt,hyi]|apply kh<;>intro qa
     refine CallC.nd (caps:=[]) (hr) (by simp only[go_sem]) (kP (by simp only[go_sem])) ?_
     rintro _ ⟨e,rfl,he⟩
     simp only[go_sem]
     cases t8:e !=0
     ·repeat' first|(first|refine kcc ?_|refine kjj kq10 ?_|apply kU);simp only[go_sem,t8,hw]|apply kh<;>intro qa
      exact⟨qv htk hi (he (by simpa using t8)),kmm⟩
     ·repeat' first|(first|refine kcc ?_|refine kjj kq10 ?_|apply kU);simp only[go_sem,t8]|apply kh<;>intro qa
      apply kF;simp only[go_sem]
      exact⟨e,rfl,fun h=>absurd h (by simpa using t8)⟩
    ·intro hlt hi
     rw[wh]at hi
     repeat' first|(first|refine kcc ?_|refine kjj kq10 ?_|apply kU);simp only[go_sem,hlt]|apply kh<;>intro qa
     apply kF;simp only[go_sem]
     refine⟨0,rfl,fun _=>?_⟩
     have:=qne hi
     simp[Qry.ok,hop0,hop6,hkl,hn0,hn3,this]
   ·have hn3:op=3:=by simpa using t5
    cases t6:decide (role<1)
    rotate_left
    ·repeat' first|(first|refine kcc ?_|refine kjj kq10 ?_|refine kx qli ?_|apply kU);simp only[go_sem,Qry.row,hel,t1,t2,t3,t4,t5,t6]|apply kh<;>intro qa
     apply kF;simp only[go_sem]
     exact⟨2,rfl,fun h=>absurd h (by decide)⟩
    cases t9:decide ((5:Int)<role)
    rotate_left
    ·repeat' first|(first|refine kcc ?_|refine kjj kq10 ?_|refine kx qli ?_|apply kU);simp only[go_sem,Qry.row,hel,t1,t2,t3,t4,t5,t6,t9]|apply kh<;>intro qa
     apply kF;simp only[go_sem]
     exact⟨2,rfl,fun h=>absurd h (by decide)⟩
    have hr1:1<=role:=by simp at t6;omega
    have hr5:role<=5:=by simp at t9;omega
    cases t7:txt==⟨#[]⟩
    ·repeat' first|(first|refine kcc ?_|refine kjj kq10 ?_|refine kx qli ?_|apply kU);simp only[go_sem,Qry.row,hel,t1,t2,t3,t4,t5,t6,t9,t7,yB]|apply kh<;>intro qa
     apply kF;simp only[go_sem]
     exact⟨1,rfl,fun h=>absurd h (by decide)⟩
    repeat' first|(first|refine kcc ?_|refine kjj kq10 ?_|refine kx qli ?_|apply kU);simp only[go_sem,Qry.row,hel,t1,t2,t3,t4,t5,t6,t9,t7,wT]|apply kh<;>intro qa
    refine qC kids (fun k=>kn 66 [(1,.one (.bx 1 4 0 0)),(52,dv (li kids.length)),(53,dv (li k))] (ml [(1,[[.c (li op),.c (li role),.c (ls txt),.c (.sl 4 (Qry.encL kids))]])])) (fun k=>∀q∈kids.take k,q.ok pkB=true) (by omega) (kmm) (by simp) ?_ ?_
    ·intro k y hy hk hm htk hlt hw hi
     have hyn:=Qg hm
     have hys:=qcC hm
     have hr:=qhY B hB n y (by omega) (by omega) (by omega)
     obtain⟨op',role',txt',kids'⟩:=y
     have hyi:=qfv hy
     rw[Qry.row]at hr
     repeat' first|(first|refine kcc ?_|refine kjj kq10 ?_|apply kU);simp only[go_sem,hlt,hyi]|apply kh<;>intro qa
     refine CallC.nd (caps:=[]) (hr) (by simp only[go_sem]) (kP (by simp only[go_sem])) ?_
     rintro _ ⟨e,rfl,he⟩
     simp only[go_sem]
     cases t8:e !=0
     ·repeat' first|(first|refine kcc ?_|refine kjj kq10 ?_|apply kU);simp only[go_sem,t8,hw]|apply kh<;>intro qa
      exact⟨qv htk hi (he (by simpa using t8)),kmm⟩
     ·repeat' first|(first|refine kcc ?_|refine kjj kq10 ?_|apply kU);simp only[go_sem,t8]|apply kh<;>intro qa
      apply kF;simp only[go_sem]
      exact⟨e,rfl,fun h=>absurd h (by simpa using t8)⟩
    ·intro hlt hi
     rw[wh]at hi
     repeat' first|(first|refine kcc ?_|refine kjj kq10 ?_|apply kU);simp only[go_sem,hlt]|apply kh<;>intro qa
     apply kF;simp only[go_sem]
     refine⟨0,rfl,fun _=>?_⟩
     have:=qne hi
     simp[Qry.ok,hop0,hop6,hkl,hn0,hr1,hr5,this]
  ·have hn0:op=0:=by simpa using t4
   cases t6:decide (role<1)
   rotate_left
   ·repeat' first|(first|refine kcc ?_|refine kjj kq10 ?_|refine kx qli ?_|apply kU);simp only[go_sem,Qry.row,hel,t1,t2,t3,t4,t6]|apply kh<;>intro qa
    apply kF;simp only[go_sem]
    exact⟨2,rfl,fun h=>absurd h (by decide)⟩
   cases t9:decide ((5:Int)<role)
   rotate_left
   ·repeat' first|(first|refine kcc ?_|refine kjj kq10 ?_|refine kx qli ?_|apply kU);simp only[go_sem,Qry.row,hel,t1,t2,t3,t4,t6,t9]|apply kh<;>intro qa
    apply kF;simp only[go_sem]
    exact⟨2,rfl,fun h=>absurd h (by decide)⟩
   have hr1:1<=role:=by simp at t6;omega
   have hr5:role<=5:=by simp at t9;omega
   have hk0:kids= []:=yh.1 (by rw[hkl,kidsN,if_pos hn0])
   repeat' first|(first|refine kcc ?_|refine kjj kq10 ?_|refine kx qli ?_|refine kx hc34 ?_|apply kU);simp only[go_sem,Qry.row,hel,t1,t2,t3,t4,t6,t9]|apply kh<;>intro qa
   apply kF;simp only[go_sem]
   refine⟨errT txt,rfl,fun h=>?_⟩
   rw[h]at herr
   have hpk:(patT txt).isSome=true:=by cases hp:patT txt<;>rw[hp]at herr<;>simp at herr ⊢
   simp[Qry.ok,hn0,hk0,kidsN,hr1,hr5,hpk,Qry.okL]
theorem qkN(q:Qry)(hs:q.size<=1048576)(hq:q.nodes<=100000000):qo pP 7 [.agg q.row] (fun r=>∃e:Int,r=dv (li e)/\(e=0->q.ok pkB=true)):=by
 have h1:=qeY q.nodes q (wv _) hq
 have h2:=qjo q.nodes q (wv _) hq
 have h3:=qhY 1048576 (wv _) q.nodes q (wv _) hq hs
 obtain⟨op,role,txt,kids⟩:=q
 generalize Qry.nodes (.mk op role txt kids)=m at*
 rw[Qry.row]at h1 h2 h3
 rw[Qry.row]
 refine vt (N:=13) (rs:=[.tmp 2]) (by kernel_rfl) Tryz.func7 rfl rfl rfl (by simp) ?_
 cases t1:decide ((60:Int)<(m:Int))
 ·repeat' first|(first|refine kcc ?_|refine kx h1 ?_|apply kU);simp only[go_sem,t1]|apply kh<;>intro qa
  refine CallC.nd (caps:=[]) (h2) (by simp only[go_sem]) (kP (by simp only[go_sem])) ?_
  rintro _ ⟨x,rfl⟩
  simp only[go_sem]
  cases t2:decide ((12:Int)<x)
  ·repeat' first|(first|refine kcc ?_|apply kU);simp only[go_sem]|apply kh<;>intro qa
   refine CallC.nd (caps:=[]) (h3) (by simp only[go_sem]) (kP (by simp only[go_sem])) ?_
   rintro _ ⟨e,rfl,he⟩
   simp only[go_sem]
   repeat' first|(first|refine kcc ?_|apply kU);simp only[go_sem]|apply kh<;>intro qa
   apply kF;simp only[go_sem]
   exact⟨e,rfl,he⟩
  ·repeat' first|(first|refine kcc ?_|apply kU);simp only[go_sem]|apply kh<;>intro qa
   apply kF;simp only[go_sem]
   exact⟨11,rfl,fun h=>absurd h (by decide)⟩
 ·repeat' first|(first|refine kcc ?_|refine kx h1 ?_|apply kU);simp only[go_sem,t1]|apply kh<;>intro qa
  apply kF;simp only[go_sem]
  exact⟨11,rfl,fun h=>absurd h (by decide)⟩
end Go.Proofs.YtaaodllggdjhiaaGreatDoor
namespace Go.Proofs.YtaaodllggdjhiaaGreatDoor
abbrev kpm12:List (Nat×Go.Dl.Mode):=[(0,.light),(1,.light),(2,.light),(3,.light),(4,.light),(5,.light),(6,.light),(7,.light),(8,.light),(9,.light),(10,.light),(11,.step),(12,.step),(13,.light)]
abbrev kpm13:List (Nat×Go.Dl.Mode):=[(0,.light),(1,.light),(2,.light),(3,.light),(4,.light),(5,.light),(6,.light),(7,.light),(8,.light),(9,.step),(10,.step),(11,.light)]
abbrev kpm14:List (Nat×Go.Dl.Mode):=[(0,.light),(1,.light),(2,.light),(3,.light),(4,.light),(5,.light),(6,.light),(7,.light),(8,.light),(9,.light),(10,.light),(11,.light),(12,.light),(13,.step),(14,.light)]
abbrev kq11:Nat->List (Nat×Go.Dl.Mode):=fun n=>match n with|5=>kpm12|7=>kpm12|9=>kpm13|11=>kpm14|13=>kpm14|14=>kpm14|_=>[]
end Go.Proofs.YtaaodllggdjhiaaGreatDoor
namespace Go.Proofs.YtaaodllggdjhiaaGreatDoor
open Go.Dl
open S (usort)
attribute [local irreducible] DW DCalls ECalls qo wk IW
def TxtB(d:Dcm):Prop:=∀n∈d.notes,n.txt.size<=100000
theorem qmG(d:Dcm)(W:WfD d)(hu:qdH d.tiers)(hx:TxtB d){role:Int}(h1:1<=role)(p:ByteArray)(hp:p.size<=1048576)(hl:d.notes.length<=10000)(ht:d.tiers.length<=10000):DCalls pP 46 [.agg d.row,dv (li role),dv (ls p)] (dv (.sl 1 (ints (txtE d (ql p) role)))):=by
 have qK:=kmax
 have hR:=qgl d W hu h1 hl ht
 rw[<-qpf W (ql p) role]
 have hLm: ∀x∈QA d role,∃n∈d.notes,n.id=x:=fun x hx=>by
  obtain⟨n,hn,_,he⟩:=WfD.role_mem.1 hx;exact⟨n,hn,he⟩
 have hLl:(QA d role).length<=d.notes.length:=by
  unfold QA;rw[we];exact wC _ _
 generalize QA d role=L at*
 simp only[Dcm.row]at hR
 refine kd (N:=42) (rs:=[.tmp 6]) Tryz.func46 ?_
 repeat' first|(first|refine kcc ?_|refine kx hR ?_|apply kU);simp +decide only[go_sem,Dcm.row]|apply kh<;>intro qa
 refine zl 7 7 1 (by simp +decide only[go_sem]) ?_
 refine qj L (fun k=>kn 42 [(2,dv (ls p)),(3,.one (.bx 3 7 0 0)),(7,.one (.own 7 1 (ints ((L.take k).filter fun id=>ql p (getN d.notes id).1.txt)))),(8,dv (.sl 1 (ints L))),(9,dv (li k))] (ml [(3,[d.row])])) (by omega) (kM rfl (by simp +decide only[go_sem,wg,yi,wn]) (by simp +decide only[go_sem,Dcm.row])) ?_ ?_
 ·intro k x hx' hk hm htk hlt hw
  obtain⟨n,hn,he⟩:=hLm x hm
  have hxi:=qp hx'
  have hG:=vP d x (by omega)
  have hgn:getN d.notes x=(n,true):=by rw[<-he];exact W.get hn
  rw[hgn]at hG
  have hM:=qkG p n.txt hp (hx n hn)
  have hfl:=qfr (fun id=>ql p (getN d.notes id).1.txt) L k
  rw[qcj _ htk,hgn]
  generalize (L.take k).filter (fun id=>ql p (getN d.notes id).1.txt)=q at hfl ⊢
  have hb8:((q.length+1)*8<=140737488355328)=True:=eq_true (by omega)
  simp only[Dcm.row,Nte.row]at hG
  repeat' first|(first|refine kcc ?_|apply kU);simp +decide only[go_sem,hlt,Dcm.row]|apply kh<;>intro qa
  refine vq (fun _:Unit=>kn 42 [(2,dv (ls p)),(3,.one (.bx 3 7 0 0)),(7,.one (.own 7 1 (ints q))),(8,dv (.sl 1 (ints L))),(9,dv (li k)),(10,.one (.bx 10 7 0 0))] (ml [(3,[d.row]),(10,[n.row])])) (fun _=>True) ?_ ?_
  ·apply Zh (id:=6) (N:=42) [] [[],[],[],[1,2],[3],[0,4],[5],[6],[6],[],[9,7,5,0,1,2,3,4,5,6,7,9],[8,10,0,1,2,3,4,5,6,7,8,9,10]] (.bl 1 (.bl 2 (.thr 0 (.two 3 (.two 4 (.two 5 (.bl 6 (.ex 7 (.ex 8 (.run [9,10,11] .leaf)))) 9 (.run [5,6] (.ex 7 (.ex 8 (.run [10,11] .leaf))))) 9 (.run [4,5,6] (.ex 7 (.ex 8 (.run [10,11] .leaf))))) 9 (.run [3,4,5,6] (.ex 7 (.ex 8 (.run [10,11] .leaf))))) 3 (.thr 0 (.two 4 (.two 5 (.bl 6 (.ex 7 (.ex 8 (.run [9,10,11] .leaf)))) 9 (.run [5,6] (.ex 7 (.ex 8 (.run [10,11] .leaf))))) 9 (.run [4,5,6] (.ex 7 (.ex 8 (.run [10,11] .leaf))))) 4 (.two 0 (.two 5 (.bl 6 (.ex 7 (.ex 8 (.run [9,10,11] .leaf)))) 9 (.run [5,6] (.ex 7 (.ex 8 (.run [10,11] .leaf))))) 9 (.run [0,5,6] (.ex 7 (.ex 8 (.run [10,11] .leaf))))) 9 (.dia 0 4 (.run [5,6] (.ex 7 (.ex 8 (.run [10,11] .leaf)))))) 9 (.two 0 (.run [3,4,5,6] (.ex 7 (.ex 8 (.run [10,11] .leaf)))) 3 (.dia 0 4 (.run [5,6] (.ex 7 (.ex 8 (.run [10,11] .leaf)))))))));kernel_rfl;rfl;kernel_rfl;kernel_rfl
   simp only[wt,wn]
   simp +decide only[go_sem,hxi,w4,Dcm.row,Nte.row]
   (repeat'(first|apply And.intro|(refine kw hG ?_;simp +decide only[go_sem,w4])|(refine kO (hG) (kP rfl) ?_;simp +decide only[go_sem,hxi,hx',w4,Dcm.row,Nte.row])))
   all_goals exact⟨(),kmm⟩
  rintro _ _
  cases t1:ql p n.txt
  ·rw[t1]at hM
   repeat' first|(first|refine kcc ?_|refine kx hM ?_|apply kU);simp +decide only[go_sem,hw,Nte.row]|apply kh<;>intro qa
   exact km (by simp +decide only[go_sem,Dcm.row])
  ·rw[t1]at hM
   repeat' first|(first|refine kcc ?_|refine kx hM ?_|apply kU);simp +decide only[go_sem,hw,hxi,hb8,Nte.row]|apply kh<;>intro qa
   exact km (by simp +decide only[go_sem,Dcm.row])
 ·intro hlt
  rw[wh]
  repeat' first|(first|refine kcc ?_|apply kU);simp +decide only[go_sem,hlt]|apply kh<;>intro qa
  refine qw 6 _ (DLe.own_ _ _ _) ?_
  apply kF;simp +decide only[go_sem]
theorem row_enc(q:Qry):q.row=q.enc.map T.c:=by obtain⟨op,role,txt,kids⟩:=q;rfl
theorem qmP(d:Dcm)(W:WfD d)(hu:qdH d.tiers)(hx:TxtB d)(hl:d.notes.length<=10000)(ht:d.tiers.length<=10000): ∀(n:Nat) (q:Qry),q.nodes<=n->q.ok pkB=true->DCalls pP 18 [.agg d.row,.agg q.row] (dv (.sl 1 (ints (q.ev d ql))))
 | 0,q,h,_=>by have:=QR q;omega
 | n+1,.mk op role txt kids,h,hok=>by
  rw[Qry.nodes]at h
  rw[Qry.ok]at hok
  simp only[wu,decide_eq_true_eq]at hok
  obtain⟨⟨⟨⟨⟨ho0,ho6⟩,hkl⟩,hro⟩,hpk⟩,hkids⟩:=hok
  have hev: ∀q∈kids,DCalls pP 18 [.agg d.row,.agg q.row] (dv (.sl 1 (ints (q.ev d ql)))):=fun q hq=>qmP d W hu hx hl ht n q (by have:=Qg hq;omega) (qh5 hkids q hq)
  rw[Qry.ev]
  by_cases e0:op=0
  ·subst e0
   have hr1:1<=role:=by simp at hro;omega
   have hp:txt.size<=1048576:=by
    simp only[if_true]at hpk
    unfold pkB patT at hpk
    split at hpk
    ·cases hpk
    ·omega
   have hT:=qmG d W hu hx hr1 txt hp hl ht
   simp only[Dcm.row]at hT
   refine kd (N:=104) (rs:=[.tmp 4]) Tryz.func18 ?_
   repeat' first|(first|refine kcc ?_|refine kjj kq11 ?_|refine kx hT ?_|apply kU|apply kF);simp +decide only[go_sem,Dcm.row,Qry.row]|apply kh<;>intro qa
   simp[Zt]
  by_cases e3:op=3
  ·subst e3
   have hr1:1<=role:=by simp at hro;omega
   obtain⟨a,rfl⟩: ∃a,kids= [a]:=by
    match kids,hkl with
    | [a],_=>exact⟨a,rfl⟩
   have hR:=qgl d W hu hr1 hl ht
   have hA:=hev a (by simp)
   have hLl:(QA d role).length<=d.notes.length:=by
    unfold QA;rw[we];exact wC _ _
   have hAl:=qaY W ql a
   simp only[Qry.evL,jk]
   generalize a.ev d ql=A at*
   have hM:=qpL (QA d role) A (by omega) (by have qK:=kmax;omega)
   obtain⟨op',role',txt',kids'⟩:=a
   rw[Qry.row]at hA
   simp only[Dcm.row]at hR hA
   have q1:((3:Int)==0)=false:=by decide
   have q2:((3:Int)==1)=false:=by decide
   have q3:((3:Int)==2)=false:=by decide
   have q4:((3:Int)==3)=true:=by decide
   refine kd (N:=104) (rs:=[.tmp 4]) Tryz.func18 ?_
   repeat' first|(first|refine kcc ?_|refine kjj kq11 ?_|refine kx hR ?_|refine kx hA ?_|refine kx hM ?_|apply kU|apply kF);simp +decide only[go_sem,Dcm.row,Qry.row,Qry.enc,Qry.encL,q1,q2,q3,q4]|apply kh<;>intro qa
   simp[Zt]
  ·obtain⟨a,b,rfl⟩: ∃a b,kids= [a,b]:=by
    have hk2:kids.length=2:=by rw[hkl,kidsN,if_neg e0,if_neg e3]
    match kids,hk2 with
    | [a,b],_=>exact⟨a,b,rfl⟩
   have hA:=hev a (by simp)
   have hB:=hev b (by simp)
   have hAl:=qaY W ql a
   have hBl:=qaY W ql b
   simp only[Qry.evL,jk,List.getD_cons_succ]
   generalize a.ev d ql=A at*
   generalize b.ev d ql=B at*
   have qK:=kmax
   have c1:=rBoth_D A B (by omega) (by omega)
   have c2:=qeW A B (by omega)
   have c4:=rThen_D d W A B hl (by omega) (by omega)
   have c5:=qmD d W A B hl ht (by omega) (by omega)
   have c6:=qpO d W A B hl ht (by omega) (by omega)
   obtain⟨op',role',txt',kids'⟩:=a
   obtain⟨op2,role2,txt2,kids2⟩:=b
   rw[Qry.row]at hA hB
   simp only[Dcm.row]at hA hB c4 c5 c6
   have hcase:op=1\/op=2\/op=4\/op=5\/op=6:=by omega
   rcases hcase with e|e|e|e|e
   all_goals
    subst e
    refine kd (N:=104) (rs:=[.tmp 4]) Tryz.func18 ?_
    repeat' first|(first|refine kcc ?_|refine kjj kq11 ?_|refine kx hA ?_|refine kx hB ?_|refine kx c1 ?_|refine kx c2 ?_|refine kx c4 ?_|refine kx c5 ?_|refine kx c6 ?_|apply kU|apply kF);simp +decide only[go_sem,Dcm.row,Qry.row,Qry.enc,Qry.encL,Int.reduceBEq,Int.reduceToNat,List.getElem?_cons_succ,List.getElem?_cons_zero]|apply kh<;>intro qa
   all_goals(try simp[Zt])
end Go.Proofs.YtaaodllggdjhiaaGreatDoor
namespace Go.Proofs.YtaaodllggdjhiaaGreatDoor
abbrev kpm15:List (Nat×Go.Dl.Mode):=[(0,.light),(1,.light),(2,.light),(3,.light),(4,.light),(5,.light),(6,.light),(7,.light),(8,.light),(9,.light),(10,.light),(11,.light),(12,.light)]
abbrev kpm16:List (Nat×Go.Dl.Mode):=[(0,.light),(1,.light),(2,.step),(3,.light),(4,.light),(5,.light),(6,.light),(7,.light),(8,.light),(9,.light),(10,.light),(11,.light)]
abbrev kpm17:List (Nat×Go.Dl.Mode):=[(0,.light),(1,.light),(2,.step),(3,.light),(4,.light),(5,.light),(6,.light),(7,.light),(8,.light),(9,.light),(10,.light),(11,.light),(12,.light),(13,.light),(14,.light),(15,.light),(16,.light),(17,.light),(18,.light)]
abbrev kq12:Nat->List (Nat×Go.Dl.Mode):=fun n=>match n with|7=>kpm3|16=>kpm15|23=>kpm16|25=>kpm17|_=>[]
end Go.Proofs.YtaaodllggdjhiaaGreatDoor
namespace Go.Proofs.YtaaodllggdjhiaaGreatDoor
open Go.Dl
attribute [local irreducible] DW DCalls ECalls qo wk IW
theorem qcO(s:ByteArray)(hs:s.size<=1048576):qo pP 159 [dv (ls s)] (fun r=>∃b:Bool,r=dv (lb b)):=by
 have qK:=kmax
 have hsz:=qmc s
 refine vt (N:=59) (rs:=[.tmp 2]) (by kernel_rfl) Tryz.func159 rfl rfl rfl (by simp) ?_
 repeat' first|(first|refine kcc ?_|apply kU);simp only[go_sem]|apply kh<;>intro qa
 refine qC s.data.toList (fun k=>kn 59 [(0,dv (ls s)),(3,dv (li k))] qc) (fun _=>True) (by omega) kl trivial ?_ ?_
 ·intro k e he hk hm htk hlt hw hi
  rw[hsz]at hlt
  rcases wN (decide ((97:Int)<=((e.toNat:Nat):Int)))with c1|c1
  ·skip
   rcases wN (decide (((e.toNat:Nat):Int)<=122))with c2|c2
   ·skip
    repeat' first|(first|refine kcc ?_|apply kU|apply kF);simp only[go_sem,hlt,hw,he,c1,c2,wB]|apply kh<;>intro qa
    first|exact⟨trivial,kl⟩|exact kl
   rcases wN (((k:Int)==0))with c3|c3
   ·skip
    repeat' first|(first|refine kcc ?_|apply kU|apply kF);simp only[go_sem,hlt,he,c1,c2,c3,wB]|apply kh<;>intro qa
    exact⟨_,rfl⟩
   rcases wN ((((e.toNat:Nat):Int)!=45))with c4|c4
   rotate_left
   ·skip
    repeat' first|(first|refine kcc ?_|apply kU|apply kF);simp only[go_sem,hlt,hw,he,c1,c2,c3,c4,wB]|apply kh<;>intro qa
    first|exact⟨trivial,kl⟩|exact kl
   rcases wN ((((e.toNat:Nat):Int)!=95))with c5|c5
   rotate_left
   ·skip
    repeat' first|(first|refine kcc ?_|apply kU|apply kF);simp only[go_sem,hlt,hw,he,c1,c2,c3,c4,c5,wB]|apply kh<;>intro qa
    first|exact⟨trivial,kl⟩|exact kl
   rcases wN (decide (((e.toNat:Nat):Int)<48))with c6|c6
   ·skip
    repeat' first|(first|refine kcc ?_|apply kU|apply kF);simp only[go_sem,hlt,he,c1,c2,c3,c4,c5,c6,wB]|apply kh<;>intro qa
    exact⟨_,rfl⟩
   rcases wN (decide ((57:Int)<((e.toNat:Nat):Int)))with c7|c7
   ·skip
    repeat' first|(first|refine kcc ?_|apply kU|apply kF);simp only[go_sem,hlt,he,c1,c2,c3,c4,c5,c6,c7,wB]|apply kh<;>intro qa
    exact⟨_,rfl⟩
   repeat' first|(first|refine kcc ?_|apply kU|apply kF);simp only[go_sem,hlt,hw,he,c1,c2,c3,c4,c5,c6,c7,wB]|apply kh<;>intro qa
   first|exact⟨trivial,kl⟩|exact kl
  rcases wN (((k:Int)==0))with c3|c3
  ·skip
   repeat' first|(first|refine kcc ?_|apply kU|apply kF);simp only[go_sem,hlt,he,c1,c3,wB]|apply kh<;>intro qa
   exact⟨_,rfl⟩
  rcases wN ((((e.toNat:Nat):Int)!=45))with c4|c4
  rotate_left
  ·skip
   repeat' first|(first|refine kcc ?_|apply kU|apply kF);simp only[go_sem,hlt,hw,he,c1,c3,c4,wB]|apply kh<;>intro qa
   first|exact⟨trivial,kl⟩|exact kl
  rcases wN ((((e.toNat:Nat):Int)!=95))with c5|c5
  rotate_left
  ·skip
   repeat' first|(first|refine kcc ?_|apply kU|apply kF);simp only[go_sem,hlt,hw,he,c1,c3,c4,c5,wB]|apply kh<;>intro qa
   first|exact⟨trivial,kl⟩|exact kl
  rcases wN (decide (((e.toNat:Nat):Int)<48))with c6|c6
  ·skip
   repeat' first|(first|refine kcc ?_|apply kU|apply kF);simp only[go_sem,hlt,he,c1,c3,c4,c5,c6,wB]|apply kh<;>intro qa
   exact⟨_,rfl⟩
  rcases wN (decide ((57:Int)<((e.toNat:Nat):Int)))with c7|c7
  ·skip
   repeat' first|(first|refine kcc ?_|apply kU|apply kF);simp only[go_sem,hlt,he,c1,c3,c4,c5,c6,c7,wB]|apply kh<;>intro qa
   exact⟨_,rfl⟩
  repeat' first|(first|refine kcc ?_|apply kU|apply kF);simp only[go_sem,hlt,hw,he,c1,c3,c4,c5,c6,c7,wB]|apply kh<;>intro qa
  first|exact⟨trivial,kl⟩|exact kl
 ·intro hlt hi
  rw[hsz]at hlt
  rcases wN (decide ((1:Int)<=(s.size:Int)))with c1|c1
  ·repeat' first|(first|refine kcc ?_|apply kU|apply kF);simp only[go_sem,hlt,hsz,c1]|apply kh<;>intro qa
   exact⟨_,rfl⟩
  ·repeat' first|(first|refine kcc ?_|apply kU|apply kF);simp only[go_sem,hlt,hsz,c1]|apply kh<;>intro qa
   exact⟨_,rfl⟩
def kindR(role:Int):Int:=if role=1 then 0 else if role=3 then 3 else if role=4\/role=5 then 4 else -1
def overR(role:Int):Int:=if role=2\/role=5 then 1 else if role=3 then 2 else if role=4 then 3 else -1
theorem qmM(role:Int):DCalls pP 160 [dv (li role)] (dv (li (kindR role))):=by
 refine kd (N:=11) (rs:=[.tmp 2]) Tryz.func160 ?_
 repeat' first|(first|refine kcc ?_|apply kU|apply kF);simp only[go_sem]|apply kh<;>intro qa
 all_goals(simp_all [kindR])
theorem qmL(role:Int):DCalls pP 161 [dv (li role)] (dv (li (overR role))):=by
 refine kd (N:=11) (rs:=[.tmp 2]) Tryz.func161 ?_
 repeat' first|(first|refine kcc ?_|apply kU|apply kF);simp only[go_sem]|apply kh<;>intro qa
 all_goals(simp_all [overR])
structure TirD(ts:List Tir)(i:Nat)(t:Tir):Prop where
 k0:0<=t.kind
 k4:t.kind<=4
 par:t.kind=0\/(0<=t.par/\t.par<i)
 role: ∀(k:Nat) u,k<i->ts[k]? =some u->t.role≠0->u.role≠t.role
theorem qmF(ts:List Tir)(i:Nat)(t:Tir)(hi:ts[i]? =some t)(hl:ts.length<=1000000)(hs:t.name.size<=1048576):qo pP 110 [dv (.sl 4 (ts.map Tir.enc)),dv (li i)] (fun r=>∃e:Int,r=dv (li e)/\(e=0->TirD ts i t)):=by
 have qK:=kmax
 have hil:=(wd.1 hi).1
 have hN:=qcO t.name hs
 have hlk:(ts.take i).length=i:=by rw[wx];omega
 refine vt (N:=136) (rs:=[.tmp 4]) (by kernel_rfl) Tryz.func110 rfl rfl rfl (by simp) ?_
 repeat' first|(first|refine kcc ?_|refine kjj kq12 ?_|apply kU);simp only[go_sem,hi,Tir.enc]|apply kh<;>intro qa|((first|apply kH|apply kI)<;>(intro qa;simp only[go_sem,qa,hi,Tir.enc]))
 refine CallC.nd (caps:=[]) (hN) (by simp only[go_sem]) (kP (by simp only[go_sem])) ?_
 rintro _ ⟨nb,rfl⟩
 simp only[go_sem]
 cases nb
 ·repeat' first|(first|refine kcc ?_|refine kjj kq12 ?_|apply kU);simp only[go_sem]|apply kh<;>intro qa|((first|apply kH|apply kI)<;>(intro qa;simp only[go_sem,qa]))
  apply kF;simp only[go_sem]
  exact⟨7,rfl,fun h=>absurd h (by decide)⟩
 repeat' first|(first|refine kcc ?_|refine kjj kq12 ?_|apply kU);simp only[go_sem]|apply kh<;>intro qa|((first|apply kH|apply kI)<;>(intro qa;simp only[go_sem,qa]))
 refine qC (ts.take i) (fun k=>kn 136 [(0,dv (.sl 4 (ts.map Tir.enc))),(1,dv (li i)),(5,.one (.bx 5 4 0 0)),(6,dv (li k))] (ml [(5,[t.row])])) (fun _=>True) (by omega) (km (by simp only[go_sem,Tir.row])) trivial ?_ ?_
 ·intro k u hu hk hm htk hlt hw _
  rw[hlk]at hlt hk
  have hu':ts[k]? =some u:=by rw[y8 hk]at hu;exact hu
  repeat' first|(first|refine kcc ?_|refine kjj kq12 ?_|apply kU);simp only[go_sem,hlt,hw,hu',Tir.enc,Tir.row]|apply kh<;>intro qa|((first|apply kH|apply kI)<;>(intro qa;simp only[go_sem,qa,hlt,hw,hu',Tir.enc,Tir.row]))
  ·apply kF;simp only[go_sem]
   exact⟨8,rfl,fun h=>absurd h (by decide)⟩
  ·first|exact⟨trivial,km (by simp only[go_sem,Tir.row])⟩|exact kmm
 intro hlt _
 rw[hlk]at hlt
 cases k1:decide (t.kind<0)
 rotate_left
 ·repeat' first|(first|refine kcc ?_|refine kjj kq12 ?_|apply kU);simp only[go_sem,hlt,hlk,k1,Tir.row]|apply kh<;>intro qa|((first|apply kH|apply kI)<;>(intro qa;simp only[go_sem,qa,hlt,hlk,k1,Tir.row]))
  apply kF;simp only[go_sem]
  exact⟨14,rfl,fun h=>absurd h (by decide)⟩
 cases k2:decide ((4:Int)<t.kind)
 rotate_left
 ·repeat' first|(first|refine kcc ?_|refine kjj kq12 ?_|apply kU);simp only[go_sem,hlt,hlk,k1,k2,Tir.row]|apply kh<;>intro qa|((first|apply kH|apply kI)<;>(intro qa;simp only[go_sem,qa,hlt,hlk,k1,k2,Tir.row]))
  apply kF;simp only[go_sem]
  exact⟨14,rfl,fun h=>absurd h (by decide)⟩
 cases r1:decide (t.role<0)
 rotate_left
 ·repeat' first|(first|refine kcc ?_|refine kjj kq12 ?_|apply kU);simp only[go_sem,hlt,hlk,k1,k2,r1,Tir.row]|apply kh<;>intro qa|((first|apply kH|apply kI)<;>(intro qa;simp only[go_sem,qa,hlt,hlk,k1,k2,r1,Tir.row]))
  apply kF;simp only[go_sem]
  exact⟨2,rfl,fun h=>absurd h (by decide)⟩
 cases r2:decide ((5:Int)<t.role)
 rotate_left
 ·repeat' first|(first|refine kcc ?_|refine kjj kq12 ?_|apply kU);simp only[go_sem,hlt,hlk,k1,k2,r1,r2,Tir.row]|apply kh<;>intro qa|((first|apply kH|apply kI)<;>(intro qa;simp only[go_sem,qa,hlt,hlk,k1,k2,r1,r2,Tir.row]))
  apply kF;simp only[go_sem]
  exact⟨2,rfl,fun h=>absurd h (by decide)⟩
 repeat' first|(first|refine kcc ?_|refine kjj kq12 ?_|apply kU);simp only[go_sem,hlt,hlk,k1,k2,r1,r2,Tir.row]|apply kh<;>intro qa|((first|apply kH|apply kI)<;>(intro qa;simp only[go_sem,qa,hlt,hlk,k1,k2,r1,r2,Tir.row]))
 refine qC (ts.take i) (fun k=>kn 136 [(0,dv (.sl 4 (ts.map Tir.enc))),(1,dv (li i)),(5,.one (.bx 5 4 0 0)),(7,dv (li k))] (ml [(5,[t.row])])) (fun k=>∀u∈ts.take k,t.role≠0->u.role≠t.role) (by omega) (km (by simp only[go_sem,Tir.row])) (by simp) ?_ ?_
 ·intro k u hu hk hm htk hlt hw hinv
  rw[hlk]at hlt hk
  have hu':ts[k]? =some u:=by rw[y8 hk]at hu;exact hu
  have htk':=qH hu'
  cases z:t.role !=0
  ·have hz:t.role=0:=by simpa using z
   repeat' first|(first|refine kcc ?_|refine kjj kq12 ?_|apply kU);simp only[go_sem,hlt,hw,z,Tir.row]|apply kh<;>intro qa|((first|apply kH|apply kI)<;>(intro qa;simp only[go_sem,qa,hlt,hw,hu',z,Tir.enc,Tir.row]))
   exact⟨qv htk' hinv (fun h=>absurd hz h),kmm⟩
  ·cases z2:u.role==t.role
   ·repeat' first|(first|refine kcc ?_|refine kjj kq12 ?_|apply kU);simp only[go_sem,hlt,hw,hu',z,z2,Tir.enc,Tir.row]|apply kh<;>intro qa|((first|apply kH|apply kI)<;>(intro qa;simp only[go_sem,qa,hlt,hw,hu',z,z2,Tir.enc,Tir.row]))
    exact⟨qv htk' hinv (fun _=>by simpa using z2),kmm⟩
   ·repeat' first|(first|refine kcc ?_|refine kjj kq12 ?_|apply kU);simp only[go_sem,hlt,hu',z,z2,Tir.enc,Tir.row]|apply kh<;>intro qa|((first|apply kH|apply kI)<;>(intro qa;simp only[go_sem,qa,hlt,hw,hu',z,z2,Tir.enc,Tir.row]))
    apply kF;simp only[go_sem]
    exact⟨8,rfl,fun h=>absurd h (by decide)⟩
 intro hlt hinv
 rw[hlk]at hlt hinv
 have hrl: ∀(k:Nat) u,k<i->ts[k]? =some u->t.role≠0->u.role≠t.role:=fun k u hk hu=>hinv u (yq.2 ⟨k,by rw[y8 hk];exact hu⟩)
 have hK:=qmM t.role
 have hO:=qmL t.role
 have hT:=qeX t.kind
 have h0:0<=t.kind:=by simp at k1;omega
 have h4:t.kind<=4:=by simp at k2;omega
 cases z:t.kind==0
 ·cases p1:decide (t.par<0)
  rotate_left
  ·repeat' first|(first|refine kcc ?_|refine kjj kq12 ?_|apply kU);simp only[go_sem,hlt,hlk,z,p1,Tir.row]|apply kh<;>intro qa|((first|apply kH|apply kI)<;>(intro qa;simp only[go_sem,qa,hlt,hlk,z,p1,Tir.row]))
   apply kF;simp only[go_sem]
   exact⟨13,rfl,fun h=>absurd h (by decide)⟩
  cases p2:decide ((i:Int)<=t.par)
  rotate_left
  ·repeat' first|(first|refine kcc ?_|refine kjj kq12 ?_|apply kU);simp only[go_sem,hlt,hlk,z,p1,p2,Tir.row]|apply kh<;>intro qa|((first|apply kH|apply kI)<;>(intro qa;simp only[go_sem,qa,hlt,hlk,z,p1,p2,Tir.row]))
   apply kF;simp only[go_sem]
   exact⟨13,rfl,fun h=>absurd h (by decide)⟩
  have q0:0<=t.par:=by simp at p1;omega
  have q1:t.par<i:=by simp at p2;omega
  have q2:t.par.toNat<ts.length:=by omega
  obtain⟨u,hu⟩: ∃u,ts[t.par.toNat]? =some u:=⟨_,wc q2⟩
  have hT2:=qeX u.kind
  have hok:TirD ts i t:=⟨h0,h4,.inr ⟨q0,q1⟩,hrl⟩
  repeat' first|(first|refine kcc ?_|refine kjj kq12 ?_|refine kx hK ?_|refine kx hO ?_|refine kx hT ?_|refine kx hT2 ?_|apply kU);simp only[go_sem,hlt,hlk,z,p1,p2,Tir.row]|apply kh<;>intro qa|((first|apply kH|apply kI)<;>(intro qa;simp only[go_sem,qa,q0,hu,Tir.enc]))
  all_goals(apply kF;simp only[go_sem];first|exact⟨_,rfl,fun _=>hok⟩)
 ·have hok:TirD ts i t:=⟨h0,h4,.inl (by simpa using z),hrl⟩
  repeat' first|(first|refine kcc ?_|refine kjj kq12 ?_|refine kx hK ?_|refine kx hO ?_|refine kx hT ?_|apply kU);simp only[go_sem,hlt,hlk,z,Tir.row]|apply kh<;>intro qa|((first|apply kH|apply kI)<;>(intro qa;simp only[go_sem,qa]))
  all_goals(apply kF;simp only[go_sem];first|exact⟨_,rfl,fun _=>hok⟩)
theorem qkQ(ts:List Tir)(hl:ts.length<=1000000)(hs: ∀t∈ts,t.name.size<=1048576):qo pP 56 [dv (.sl 4 (ts.map Tir.enc))] (fun r=>∃e:Int,r=dv (li e)/\(e=0->∀(i:Nat) t,ts[i]? =some t->TirD ts i t)):=by
 have qK:=kmax
 refine vt (N:=20) (rs:=[.tmp 2]) (by kernel_rfl) Tryz.func56 rfl rfl rfl (by simp) ?_
 repeat' first|(first|refine kcc ?_|apply kU);simp only[go_sem]|apply kh<;>intro qa
 ·apply kF;simp only[go_sem]
  exact⟨11,rfl,fun h=>absurd h (by decide)⟩
 refine qC ts (fun k=>kn 20 [(0,dv (.sl 4 (ts.map Tir.enc))),(3,dv (li k))] qc) (fun k=>∀(i:Nat) t,i<k->ts[i]? =some t->TirD ts i t) (by omega) kl (by intro i t h;omega) ?_ ?_
 ·intro k t ht hk hm htk hlt hw hinv
  have hN:=qmF ts k t ht hl (hs t hm)
  repeat' first|(first|refine kcc ?_|apply kU);simp only[go_sem,hlt]|apply kh<;>intro qa
  refine CallC.nd (caps:=[]) (hN) (by simp only[go_sem]) (kP (by simp only[go_sem])) ?_
  rintro _ ⟨e,rfl,he⟩
  simp only[go_sem]
  cases t8:e !=0
  ·repeat' first|(first|refine kcc ?_|apply kU);simp only[go_sem,t8,hw]|apply kh<;>intro qa
   refine⟨fun i u hi hu=>?_,kl⟩
   rcases yu.1 hi with h|h
   ·exact hinv i u h hu
   ·subst h
    rw[ht]at hu;injection hu with hu;rw[<-hu]
    exact he (by simpa using t8)
  ·repeat' first|(first|refine kcc ?_|apply kU);simp only[go_sem,t8]|apply kh<;>intro qa
   apply kF;simp only[go_sem]
   exact⟨e,rfl,fun h=>absurd h (by simpa using t8)⟩
 ·intro hlt hinv
  repeat' first|(first|refine kcc ?_|apply kU);simp only[go_sem,hlt]|apply kh<;>intro qa
  apply kF;simp only[go_sem]
  exact⟨0,rfl,fun _ i t ht=>hinv i t (wd.1 ht).1 ht⟩
end Go.Proofs.YtaaodllggdjhiaaGreatDoor
namespace Go.Proofs.YtaaodllggdjhiaaGreatDoor
abbrev kpm18:List (Nat×Go.Dl.Mode):=[(0,.light),(1,.light),(2,.light),(3,.light),(4,.light),(5,.light),(6,.light),(7,.light),(8,.light),(9,.light),(10,.light),(11,.light),(12,.light),(13,.light),(14,.light),(15,.light),(16,.light),(17,.light),(18,.light),(19,.light),(20,.light),(21,.light),(22,.light),(23,.light),(24,.light),(25,.light),(26,.light),(27,.light)]
abbrev kq13:Nat->List (Nat×Go.Dl.Mode):=fun n=>match n with|7=>kpm18|_=>[]
end Go.Proofs.YtaaodllggdjhiaaGreatDoor
namespace Go.Proofs.YtaaodllggdjhiaaGreatDoor
open Go.Dl
attribute [local irreducible] DW DCalls ECalls qo wk IW
theorem rSibs_D(d:Dcm)(t p:Int)(hl:d.notes.length<=10000):DCalls pP 113 [.agg d.row,dv (li t),dv (li p)] (dv (.sl 7 ((sibs d t p).map Nte.enc))):=by
 have qK:=kmax
 refine kd (N:=44) (rs:=[.tmp 6]) Tryz.func113 ?_
 repeat' first|(first|refine kcc ?_|apply kU);simp +decide only[go_sem,Dcm.row]|apply kh<;>intro qa
 refine qau 7 7 7 [] (by simp +decide only[go_sem]) ?_
 refine qj d.notes (fun k=>kn 44 [(1,dv (li t)),(2,dv (li p)),(3,.one (.bx 3 7 0 0)),(7,.one (.own 7 7 (((d.notes.take k).filter fun n=>n.tier==t&&n.par==p).map Nte.enc))),(8,dv (li k))] (ml [(3,[d.row])])) (by omega) (kM rfl (by simp +decide only[go_sem,wg,yi,wn]) (by simp +decide only[go_sem,Dcm.row])) ?_ ?_
 ·intro k n hn hk hm htk hlt hw
  have hfl:((d.notes.take k).filter fun n=>n.tier==t&&n.par==p).length<=d.notes.length:=by
   have:=wC (fun n:Nte=>n.tier==t&&n.par==p) (d.notes.take k)
   rw[wx]at this;omega
  rw[qZ _ htk]
  generalize (d.notes.take k).filter (fun n=>n.tier==t&&n.par==p)=q at hfl ⊢
  have hb8:((q.length+1)*64<=140737488355328)=True:=eq_true (by omega)
  cases t1:n.tier==t
  ·repeat' first|(first|refine kcc ?_|apply kU);simp +decide only[go_sem,hlt,hw,hn,t1,Dcm.row,Nte.enc]|apply kh<;>intro qa
   exact kmm
  ·cases t2:n.par==p
   ·repeat' first|(first|refine kcc ?_|apply kU);simp +decide only[go_sem,hlt,hw,hn,t1,t2,Dcm.row,Nte.enc]|apply kh<;>intro qa
    exact kmm
   ·repeat' first|(first|refine kcc ?_|apply kU);simp +decide only[go_sem,hlt,hw,hn,t1,t2,hb8,Dcm.row,Nte.enc]|apply kh<;>intro qa
    exact kM rfl (by simp +decide only[go_sem,wJ,wt,wn,Nte.enc]) (by simp +decide only[go_sem])
 ·intro hlt
  rw[wh]
  repeat' first|(first|refine kcc ?_|apply kU);simp +decide only[go_sem,hlt,Dcm.row]|apply kh<;>intro qa
  refine qw 6 _ (DLe.own_ _ _ _) ?_
  apply kF;simp +decide only[go_sem]
  rfl
theorem qkC(l:List Nte)(hl:l.length<=10000):DCalls pP 116 [dv (.sl 7 (l.map Nte.enc))] (dv (.sl 2 (spns (l.map Nte.span)))):=by
 have qK:=kmax
 refine kd (N:=21) (rs:=[.tmp 2]) Tryz.func116 ?_
 repeat' first|(first|refine kcc ?_|apply kU);simp +decide only[go_sem]|apply kh<;>intro qa
 refine qau 3 3 2 [] (by simp +decide only[go_sem]) ?_
 refine qj l (fun k=>kn 21 [(0,dv (.sl 7 (l.map Nte.enc))),(3,.one (.own 3 2 (spns ((l.take k).map Nte.span)))),(4,dv (li k))] qc) (by omega) (kL rfl (by simp +decide only[go_sem,wg,wn]) (by simp[qc])) ?_ ?_
 ·intro k n hn hk hm htk hlt hw
  have hb8:(((l.take k).length+1)*16<=140737488355328)=True:=eq_true (by rw[wx];omega)
  have hst:spns ((l.take (k+1)).map Nte.span)=spns ((l.take k).map Nte.span)++[[li n.fr,li n.tg]]:=by rw[htk];simp[Spn.enc,Nte.span]
  rw[hst]
  repeat' first|(first|refine kcc ?_|apply kU);simp +decide only[go_sem,hlt,hw,hn,hb8,Nte.enc,we]|apply kh<;>intro qa
  exact kl
 ·intro hlt
  rw[wh]
  repeat' first|(first|refine kcc ?_|apply kU);simp +decide only[go_sem,hlt]|apply kh<;>intro qa
  refine qw 2 _ (DLe.own_ _ _ _) ?_
  apply kF;simp +decide only[go_sem]
theorem rOvl_N(l:List Nte)(hl:l.length<=10000):qo pP 115 [dv (.sl 7 (l.map Nte.enc))] (fun r=>∃b:Bool,r=dv (lb b)/\(b=false->¬ovl l)):=by
 have qK:=kmax
 refine vt (N:=44) (rs:=[.tmp 2]) (by kernel_rfl) Tryz.func115 rfl rfl rfl (by simp) ?_
 repeat' first|(first|refine kcc ?_|refine kjj kq13 ?_|apply kU);simp only[go_sem]|apply kh<;>intro qa
 refine qC l (fun k=>kn 44 [(0,dv (.sl 7 (l.map Nte.enc))),(3,dv (li k))] qc) (fun i'=>∀(i k:Nat) (a b:Nte),i<i'->k<i->l[i]? =some a->l[k]? =some b->¬(a.fr<b.tg/\b.fr<a.tg)) (by omega) kl (by intro i k a b h;omega) ?_ ?_
 ·intro i a ha hi hm htk hlt hw hinv
  have hli:(l.take i).length=i:=by rw[wx];omega
  repeat' first|(first|refine kcc ?_|refine kjj kq13 ?_|apply kU);simp only[go_sem,hlt]|apply kh<;>intro qa
  refine qC (l.take i) (fun k=>kn 44 [(0,dv (.sl 7 (l.map Nte.enc))),(3,dv (li i)),(4,dv (li k))] qc) (fun k'=>∀(k:Nat) (b:Nte),k<k'->l[k]? =some b->¬(a.fr<b.tg/\b.fr<a.tg)) (by omega) kl (by intro k b h;omega) ?_ ?_
  ·intro k b hb hk hmk htk2 Zu hw2 qlk
   rw[hli]at Zu hk
   have hb':l[k]? =some b:=by rw[y8 hk]at hb;exact hb
   have next: ¬(a.fr<b.tg/\b.fr<a.tg)->∀(k':Nat) (b:Nte),k'<k+1->l[k']? =some b->¬(a.fr<b.tg/\b.fr<a.tg):=fun hn k' b' hk' hb2=>by
    rcases yu.1 hk' with h|h
    ·exact qlk k' b' h hb2
    ·subst h;rw[hb']at hb2;injection hb2 with hb2;rw[<-hb2];exact hn
   cases t1:decide (a.fr<b.tg)
   ·repeat' first|(first|refine kcc ?_|refine kjj kq13 ?_|apply kU);simp only[go_sem,Zu,hw2,ha,hb',t1,Nte.enc]|apply kh<;>intro qa
    exact⟨next (fun h=>by simp at t1;omega),kl⟩
   ·cases t2:decide (b.fr<a.tg)
    ·repeat' first|(first|refine kcc ?_|refine kjj kq13 ?_|apply kU);simp only[go_sem,Zu,hw2,ha,hb',t1,t2,Nte.enc]|apply kh<;>intro qa
     exact⟨next (fun h=>by simp at t2;omega),kl⟩
    ·repeat' first|(first|refine kcc ?_|refine kjj kq13 ?_|apply kU);simp only[go_sem,Zu,ha,hb',t1,t2,Nte.enc]|apply kh<;>intro qa
     apply kF;simp only[go_sem]
     exact⟨true,rfl,fun h=>by cases h⟩
  ·intro Zu qlk
   rw[hli]at Zu qlk
   repeat' first|(first|refine kcc ?_|refine kjj kq13 ?_|apply kU);simp only[go_sem,Zu,hli,hw]|apply kh<;>intro qa
   refine⟨fun i' k a' b' hi' hk ha' hb'=>?_,kl⟩
   rcases yu.1 hi' with h|h
   ·exact hinv i' k a' b' h hk ha' hb'
   ·subst h;rw[ha]at ha';injection ha' with ha';rw[<-ha'];exact qlk k b' hk hb'
 ·intro hlt hinv
  repeat' first|(first|refine kcc ?_|refine kjj kq13 ?_|apply kU);simp only[go_sem,hlt]|apply kh<;>intro qa
  apply kF;simp only[go_sem]
  refine⟨false,rfl,fun _=>?_⟩
  rintro⟨i,k,a,b,h1,h2,h3,h4⟩
  exact hinv i k a b (wd.1 h2).1 h1 h2 h3 h4
theorem qmJ(l:List Nte)(hl:l.length<=10000):qo pP 117 [dv (.sl 7 (l.map Nte.enc))] (fun r=>∃b:Bool,r=dv (lb b)/\(b=true->rnk l)):=by
 have qK:=kmax
 refine vt (N:=30) (rs:=[.tmp 2]) (by kernel_rfl) Tryz.func117 rfl rfl rfl (by simp) ?_
 repeat' first|(first|refine kcc ?_|apply kU);simp only[go_sem]|apply kh<;>intro qa
 refine qC l (fun k=>kn 30 [(0,dv (.sl 7 (l.map Nte.enc))),(3,dv (li k))] qc) (fun i=>∀m:Nat,m<i->∃n∈l,n.rank=(m:Int)) (by omega) kl (by intro m h;omega) ?_ ?_
 ·intro i a ha hi hm htk hlt hw hinv
  repeat' first|(first|refine kcc ?_|apply kU);simp only[go_sem,hlt]|apply kh<;>intro qa
  refine vz (fun _:Unit=>kn 30 [(0,dv (.sl 7 (l.map Nte.enc))),(3,dv (li i)),(4,dv (lb (l.any fun n=>n.rank==(i:Int))))] qc) (fun _=>True) ?_ ?_
  ·refine qj l (fun m=>kn 30 [(0,dv (.sl 7 (l.map Nte.enc))),(3,dv (li i)),(4,dv (lb ((l.take m).any fun n=>n.rank==(i:Int)))),(5,dv (li m))] qc) (by omega) (kL rfl (by simp only[go_sem,wg,List.any_nil]) (by simp[qc])) ?_ ?_
   ·intro m n hn hmk hmm htm Zu hw2
    have e:(l.take (m+1)).any (fun n=>n.rank==(i:Int))=((l.take m).any (fun n=>n.rank==(i:Int))||n.rank==(i:Int)):=by rw[htm,List.any_append];simp
    rw[e]
    cases t1:(l.take m).any fun n=>n.rank==(i:Int)
    ·repeat' first|(first|refine kcc ?_|apply kU);simp only[go_sem,Zu,hw2,hn,Nte.enc]|apply kh<;>intro qa
     exact kl
    ·repeat' first|(first|refine kcc ?_|apply kU);simp only[go_sem,Zu,hw2]|apply kh<;>intro qa
     exact kl
   ·intro Zu
    rw[wh]
    repeat' first|(first|refine kcc ?_|apply kU);simp only[go_sem,Zu]|apply kh<;>intro qa
    exact⟨(),kl⟩
  rintro _ _
  cases t3:l.any fun n=>n.rank==(i:Int)
  ·repeat' first|(first|refine kcc ?_|apply kU);simp only[go_sem]|apply kh<;>intro qa
   apply kF;simp only[go_sem]
   exact⟨false,rfl,fun h=>by cases h⟩
  ·repeat' first|(first|refine kcc ?_|apply kU);simp only[go_sem,hw]|apply kh<;>intro qa
   refine⟨fun m hm'=>?_,kl⟩
   rcases yu.1 hm' with h|h
   ·exact hinv m h
   ·subst h
    obtain⟨n,hn,hr⟩:=yo.1 t3
    exact⟨n,hn,by simpa using hr⟩
 ·intro hlt hinv
  repeat' first|(first|refine kcc ?_|apply kU);simp only[go_sem,hlt]|apply kh<;>intro qa
  apply kF;simp only[go_sem]
  exact⟨true,rfl,fun _=>hinv⟩
theorem qgm(d:Dcm)(n:Nte)(t:Tir)(h0:0<=n.tier)(ht:d.tiers[n.tier.toNat]? =some t)(hl:d.notes.length<=10000):qo pP 112 [.agg d.row,.agg n.row] (fun r=>∃e:Int,r=dv (li e)/\(e=0->PlcD d n t)):=by
 have qK:=kmax
 have htl:=(wd.1 ht).1
 have hG:=vP d n.par (by omega)
 have hA:=ZC t.kind
 have hR:=Qd n.span
 obtain⟨p,hp⟩: ∃p,getN d.notes n.par=p:=⟨_,rfl⟩
 have goal: ∀(c1:t.kind=0->n.par=0) (c2:t.kind≠0->p.2=true/\p.1.tier=t.par) (c3:algK t.kind=false->n.fr=0/\n.tg=0) (c4:algK t.kind=true->n.fr<n.tg) (c5:n.rank≠0->t.kind=3),PlcD d n t:=fun c1 c2 c3 c4 c5=>⟨c1,by rw[hp];exact c2,c3,c4,c5⟩
 rw[hp]at hG
 obtain⟨p,ok⟩:=p
 simp only[Dcm.row,Nte.row,Spn.row,Nte.span]at hG hR
 simp only at goal
 have hrs:qg n.span=true->n.fr<n.tg:=fun h=>(rightS_iff.1 h).2.1
 simp only[Nte.span]at hrs
 refine vt (N:=117) (rs:=[.tmp 4]) (by kernel_rfl) Tryz.func112 rfl rfl rfl (by simp) ?_
 cases k0:t.kind==0
 ·have k0':t.kind≠0:=by simpa using k0
  have k0n:(t.kind !=0)=true:=by simpa using k0
  cases ok
  ·repeat' first|(first|refine kcc ?_|refine kx hG ?_|apply kU);simp +decide only[go_sem,h0,ht,k0,k0n,Dcm.row,Nte.row,Tir.enc]|apply kh<;>intro qa
   apply kF;simp +decide only[go_sem]
   exact⟨13,rfl,fun h=>absurd h (by decide)⟩
  cases k2:p.tier !=t.par
  rotate_left
  ·repeat' first|(first|refine kcc ?_|refine kx hG ?_|apply kU);simp +decide only[go_sem,h0,ht,k0,k0n,k2,Dcm.row,Nte.row,Tir.enc]|apply kh<;>intro qa
   apply kF;simp +decide only[go_sem]
   exact⟨13,rfl,fun h=>absurd h (by decide)⟩
  have k2':p.tier=t.par:=by simpa using k2
  cases a0:algK t.kind
  ·rw[a0]at hA
   cases z:(n.fr==0&&(n.tg==0))
   ·repeat' first|(first|refine kcc ?_|refine kx hG ?_|refine kx hA ?_|refine kx hR ?_|apply kU);simp +decide only[go_sem,h0,ht,Dcm.row,Nte.row,Tir.enc,yB,wT,k0,k0n,k2,z]|apply kh<;>intro qa
    apply kF;simp +decide only[go_sem]
    exact⟨12,rfl,fun h=>absurd h (by decide)⟩
   cases q1:decide (n.rank<0)
   rotate_left
   ·repeat' first|(first|refine kcc ?_|refine kx hG ?_|refine kx hA ?_|refine kx hR ?_|apply kU);simp +decide only[go_sem,h0,ht,Dcm.row,Nte.row,Tir.enc,yB,wT,k0,k0n,k2,z,q1]|apply kh<;>intro qa
    apply kF;simp +decide only[go_sem]
    exact⟨1,rfl,fun h=>absurd h (by decide)⟩
   cases q2:n.rank !=0
   ·repeat' first|(first|refine kcc ?_|refine kx hG ?_|refine kx hA ?_|refine kx hR ?_|apply kU);simp +decide only[go_sem,h0,ht,Dcm.row,Nte.row,Tir.enc,yB,wT,k0,k0n,k2,z,q1,q2]|apply kh<;>intro qa
    apply kF;simp +decide only[go_sem]
    exact⟨0,rfl,fun _=>goal (fun h=>absurd h k0') (fun _=>⟨rfl,k2'⟩) (fun _=>by simpa using z) (fun h=>by rw[a0]at h;cases h) (fun h=>absurd (by simpa using q2) h)⟩
   cases q3:t.kind !=3
   ·repeat' first|(first|refine kcc ?_|refine kx hG ?_|refine kx hA ?_|refine kx hR ?_|apply kU);simp +decide only[go_sem,h0,ht,Dcm.row,Nte.row,Tir.enc,yB,wT,k0,k0n,k2,z,q1,q2,q3]|apply kh<;>intro qa
    apply kF;simp +decide only[go_sem]
    exact⟨0,rfl,fun _=>goal (fun h=>absurd h k0') (fun _=>⟨rfl,k2'⟩) (fun _=>by simpa using z) (fun h=>by rw[a0]at h;cases h) (fun _=>by simpa using q3)⟩
   repeat' first|(first|refine kcc ?_|refine kx hG ?_|refine kx hA ?_|refine kx hR ?_|apply kU);simp +decide only[go_sem,h0,ht,Dcm.row,Nte.row,Tir.enc,yB,wT,k0,k0n,k2,z,q1,q2,q3]|apply kh<;>intro qa
   apply kF;simp +decide only[go_sem]
   exact⟨1,rfl,fun h=>absurd h (by decide)⟩
  ·rw[a0]at hA
   cases hr:qg ⟨n.fr,n.tg⟩
   ·rw[hr]at hR
    repeat' first|(first|refine kcc ?_|refine kx hG ?_|refine kx hA ?_|refine kx hR ?_|apply kU);simp +decide only[go_sem,h0,ht,Dcm.row,Nte.row,Tir.enc,yB,wT,k0,k0n,k2]|apply kh<;>intro qa
    apply kF;simp +decide only[go_sem]
    exact⟨12,rfl,fun h=>absurd h (by decide)⟩
   rw[hr]at hR
   cases f1:decide (n.fr<p.fr)
   rotate_left
   ·repeat' first|(first|refine kcc ?_|refine kx hG ?_|refine kx hA ?_|refine kx hR ?_|apply kU);simp +decide only[go_sem,h0,ht,Dcm.row,Nte.row,Tir.enc,wT,k0,k0n,k2,f1]|apply kh<;>intro qa
    apply kF;simp +decide only[go_sem]
    exact⟨12,rfl,fun h=>absurd h (by decide)⟩
   cases f2:decide (p.tg<n.tg)
   rotate_left
   ·repeat' first|(first|refine kcc ?_|refine kx hG ?_|refine kx hA ?_|refine kx hR ?_|apply kU);simp +decide only[go_sem,h0,ht,Dcm.row,Nte.row,Tir.enc,wT,k0,k0n,k2,f1,f2]|apply kh<;>intro qa
    apply kF;simp +decide only[go_sem]
    exact⟨12,rfl,fun h=>absurd h (by decide)⟩
   cases q1:decide (n.rank<0)
   rotate_left
   ·repeat' first|(first|refine kcc ?_|refine kx hG ?_|refine kx hA ?_|refine kx hR ?_|apply kU);simp +decide only[go_sem,h0,ht,Dcm.row,Nte.row,Tir.enc,wT,k0,k0n,k2,f1,f2,q1]|apply kh<;>intro qa
    apply kF;simp +decide only[go_sem]
    exact⟨1,rfl,fun h=>absurd h (by decide)⟩
   cases q2:n.rank !=0
   ·repeat' first|(first|refine kcc ?_|refine kx hG ?_|refine kx hA ?_|refine kx hR ?_|apply kU);simp +decide only[go_sem,h0,ht,Dcm.row,Nte.row,Tir.enc,wT,k0,k0n,k2,f1,f2,q1,q2]|apply kh<;>intro qa
    apply kF;simp +decide only[go_sem]
    exact⟨0,rfl,fun _=>goal (fun h=>absurd h k0') (fun _=>⟨rfl,k2'⟩) (fun h=>by rw[a0]at h;cases h) (fun _=>hrs hr) (fun h=>absurd (by simpa using q2) h)⟩
   cases q3:t.kind !=3
   ·repeat' first|(first|refine kcc ?_|refine kx hG ?_|refine kx hA ?_|refine kx hR ?_|apply kU);simp +decide only[go_sem,h0,ht,Dcm.row,Nte.row,Tir.enc,wT,k0,k0n,k2,f1,f2,q1,q2,q3]|apply kh<;>intro qa
    apply kF;simp +decide only[go_sem]
    exact⟨0,rfl,fun _=>goal (fun h=>absurd h k0') (fun _=>⟨rfl,k2'⟩) (fun h=>by rw[a0]at h;cases h) (fun _=>hrs hr) (fun _=>by simpa using q3)⟩
   repeat' first|(first|refine kcc ?_|refine kx hG ?_|refine kx hA ?_|refine kx hR ?_|apply kU);simp +decide only[go_sem,h0,ht,Dcm.row,Nte.row,Tir.enc,wT,k0,k0n,k2,f1,f2,q1,q2,q3]|apply kh<;>intro qa
   apply kF;simp +decide only[go_sem]
   exact⟨1,rfl,fun h=>absurd h (by decide)⟩
 ·have k0':t.kind=0:=by simpa using k0
  have k0n:(t.kind !=0)=false:=by simpa using k0
  have a0:algK t.kind=true:=by rw[k0'];rfl
  rw[a0]at hA
  cases k2:n.par !=0
  rotate_left
  ·repeat' first|(first|refine kcc ?_|refine kx hG ?_|apply kU);simp +decide only[go_sem,h0,ht,Dcm.row,Nte.row,Tir.enc,wT,k0,k2]|apply kh<;>intro qa
   apply kF;simp +decide only[go_sem]
   exact⟨13,rfl,fun h=>absurd h (by decide)⟩
  have k2':n.par=0:=by simpa using k2
  cases hr:qg ⟨n.fr,n.tg⟩
  ·rw[hr]at hR
   repeat' first|(first|refine kcc ?_|refine kx hG ?_|refine kx hA ?_|refine kx hR ?_|apply kU);simp +decide only[go_sem,h0,ht,Dcm.row,Nte.row,Tir.enc,yB,wT,k0,k0n,k2]|apply kh<;>intro qa
   apply kF;simp +decide only[go_sem]
   exact⟨12,rfl,fun h=>absurd h (by decide)⟩
  rw[hr]at hR
  cases f1:decide (d.rc.len<n.tg)
  rotate_left
  ·repeat' first|(first|refine kcc ?_|refine kx hG ?_|refine kx hA ?_|refine kx hR ?_|apply kU);simp +decide only[go_sem,h0,ht,Dcm.row,Nte.row,Tir.enc,wT,k0,k0n,k2,f1]|apply kh<;>intro qa
   apply kF;simp +decide only[go_sem]
   exact⟨12,rfl,fun h=>absurd h (by decide)⟩
  cases q1:decide (n.rank<0)
  rotate_left
  ·repeat' first|(first|refine kcc ?_|refine kx hG ?_|refine kx hA ?_|refine kx hR ?_|apply kU);simp +decide only[go_sem,h0,ht,Dcm.row,Nte.row,Tir.enc,wT,k0,k0n,k2,f1,q1]|apply kh<;>intro qa
   apply kF;simp +decide only[go_sem]
   exact⟨1,rfl,fun h=>absurd h (by decide)⟩
  cases q2:n.rank !=0
  ·repeat' first|(first|refine kcc ?_|refine kx hG ?_|refine kx hA ?_|refine kx hR ?_|apply kU);simp +decide only[go_sem,h0,ht,Dcm.row,Nte.row,Tir.enc,wT,k0,k0n,k2,f1,q1,q2]|apply kh<;>intro qa
   apply kF;simp +decide only[go_sem]
   exact⟨0,rfl,fun _=>goal (fun _=>k2') (fun h=>absurd k0' h) (fun h=>by rw[a0]at h;cases h) (fun _=>hrs hr) (fun h=>absurd (by simpa using q2) h)⟩
  cases q3:t.kind !=3
  ·repeat' first|(first|refine kcc ?_|refine kx hG ?_|refine kx hA ?_|refine kx hR ?_|apply kU);simp +decide only[go_sem,h0,ht,Dcm.row,Nte.row,Tir.enc,wT,k0,k0n,k2,f1,q1,q2,q3]|apply kh<;>intro qa
   apply kF;simp +decide only[go_sem]
   exact⟨0,rfl,fun _=>goal (fun _=>k2') (fun h=>absurd k0' h) (fun h=>by rw[a0]at h;cases h) (fun _=>hrs hr) (fun _=>by simpa using q3)⟩
  repeat' first|(first|refine kcc ?_|refine kx hG ?_|refine kx hA ?_|refine kx hR ?_|apply kU);simp +decide only[go_sem,h0,ht,Dcm.row,Nte.row,Tir.enc,wT,k0,k0n,k2,f1,q1,q2,q3]|apply kh<;>intro qa
  apply kF;simp +decide only[go_sem]
  exact⟨1,rfl,fun h=>absurd h (by decide)⟩
end Go.Proofs.YtaaodllggdjhiaaGreatDoor
namespace Go.Proofs.YtaaodllggdjhiaaGreatDoor
abbrev kpm19:List (Nat×Go.Dl.Mode):=[(0,.light),(1,.light),(2,.light),(3,.light),(4,.light),(5,.light),(6,.light),(7,.step),(8,.light),(9,.light)]
abbrev kq14:Nat->List (Nat×Go.Dl.Mode):=fun n=>match n with|4=>kpm2|_=>[]
abbrev kq15:Nat->List (Nat×Go.Dl.Mode):=fun n=>match n with|12=>kpm19|_=>[]
end Go.Proofs.YtaaodllggdjhiaaGreatDoor
namespace Go.Proofs.YtaaodllggdjhiaaGreatDoor
open Go.Dl
attribute [local irreducible] DW DCalls ECalls qo wk IW
structure NteD(d:Dcm)(k:Nat)(n:Nte):Prop where
 lo:1<=n.id
 hi:n.id<=1099511627776
 up: ∀(m:Nat) q,k=m+1->d.notes[m]? =some q->q.id<n.id
 txt:n.txt.size<=200
 plc: ∃t,QL d.tiers n.tier=some t/\PlcD d n t
theorem qkE(d:Dcm)(k:Nat)(n:Nte)(hn:d.notes[k]? =some n)(hl:d.notes.length<=10000):qo pP 57 [.agg d.row,dv (li k)] (fun r=>∃e:Int,r=dv (li e)/\(e=0->NteD d k n)):=by
 have qK:=kmax
 have hkl:=(wd.1 hn).1
 have hT:=rText_D n.txt
 have hte:qbZ n.txt=0->n.txt.size<=200:=fun h=>by
  unfold qbZ at h;split at h
  ·cases h
  ·omega
 refine vt (N:=54) (rs:=[.tmp 4]) (by kernel_rfl) Tryz.func57 rfl rfl rfl (by simp) ?_
 cases c1:decide (n.id<1)
 rotate_left
 ·repeat' first|(first|refine kcc ?_|refine kjj kq14 ?_|apply kU);simp only[go_sem,hn,c1,Dcm.row,Nte.enc]|apply kh<;>intro qa
  apply kF;simp only[go_sem]
  exact⟨2,rfl,fun h=>absurd h (by decide)⟩
 cases c2:decide ((1099511627776:Int)<n.id)
 rotate_left
 ·repeat' first|(first|refine kcc ?_|refine kjj kq14 ?_|apply kU);simp only[go_sem,hn,c1,c2,Dcm.row,Nte.enc]|apply kh<;>intro qa
  apply kF;simp only[go_sem]
  exact⟨2,rfl,fun h=>absurd h (by decide)⟩
 have hlo:1<=n.id:=by simp at c1;omega
 have hhi:n.id<=1099511627776:=by simp at c2;omega
 have rest: ∀(hup: ∀(m:Nat) q,k=m+1->d.notes[m]? =some q->q.id<n.id),(∀e:Int,e=0->n.txt.size<=200->(∃t,QL d.tiers n.tier=some t/\PlcD d n t)->NteD d k n):=fun hup e _ h1 h2=>⟨hlo,hhi,hup,h1,h2⟩
 have fin:(k=0/\decide ((0:Int)<(k:Int))=false)\/∃m q,k=m+1/\d.notes[m]? =some q/\decide ((0:Int)<(k:Int))=true/\IntKind.wrap .i64 ((k:Int) - 1)=(m:Int)/\m<d.notes.length:=by
  cases k with
  | zero=>left;simp
  | succ m=>right;exact⟨m,d.notes[m]'(by omega),rfl,wc (by omega),by simp,by rw[wrap_i64 (by omega) (by omega)];omega,by omega⟩
 rcases fin with⟨hk0,z⟩|⟨m,q,hk,hq,z,hw,hml⟩
 ·have rest:=rest (fun m q h=>by omega)
  cases c4:decide (n.tier<0)
  rotate_left
  ·repeat' first|(first|refine kcc ?_|refine kjj kq14 ?_|apply kU);simp only[go_sem,hn,c1,c2,z,c4,Dcm.row,Nte.enc]|apply kh<;>intro qa
   apply kF;simp only[go_sem]
   exact⟨2,rfl,fun h=>absurd h (by decide)⟩
  cases c5:decide ((d.tiers.length:Int)<=n.tier)
  rotate_left
  ·repeat' first|(first|refine kcc ?_|refine kjj kq14 ?_|apply kU);simp only[go_sem,hn,c1,c2,z,c4,c5,Dcm.row,Nte.enc]|apply kh<;>intro qa
   apply kF;simp only[go_sem]
   exact⟨2,rfl,fun h=>absurd h (by decide)⟩
  have g0:0<=n.tier:=by simp at c4;omega
  have g1:n.tier.toNat<d.tiers.length:=by simp at c5;omega
  obtain⟨t,ht⟩: ∃t,d.tiers[n.tier.toNat]? =some t:=⟨_,wc g1⟩
  have hP:=qgm d n t g0 ht hl
  simp only[Dcm.row,Nte.row]at hP
  cases c6:qbZ n.txt !=0
  rotate_left
  ·repeat' first|(first|refine kcc ?_|refine kjj kq14 ?_|refine kx hT ?_|apply kU);simp only[go_sem,hn,c1,c2,z,c4,c5,c6,Dcm.row,Nte.enc]|apply kh<;>intro qa
   apply kF;simp only[go_sem]
   exact⟨qbZ n.txt,rfl,fun h=>absurd h (by simpa using c6)⟩
  repeat' first|(first|refine kcc ?_|refine kjj kq14 ?_|refine kx hT ?_|apply kU);simp only[go_sem,hn,c1,c2,z,c4,c5,c6,Dcm.row,Nte.enc]|apply kh<;>intro qa
  refine CallC.nd (caps:=[]) (hP) (by simp only[go_sem]) (kP (by simp only[go_sem])) ?_
  rintro _ ⟨e,rfl,he⟩
  simp only[go_sem]
  repeat' first|(first|refine kcc ?_|refine kjj kq14 ?_|apply kU);simp only[go_sem]|apply kh<;>intro qa
  apply kF;simp only[go_sem]
  exact⟨e,rfl,fun h=>rest e h (hte (by simpa using c6)) ⟨t,by unfold QL;rw[if_pos g0];exact ht,he h⟩⟩
 ·cases c3:decide (n.id<=q.id)
  rotate_left
  ·repeat' first|(first|refine kcc ?_|refine kjj kq14 ?_|apply kU);simp only[go_sem,hn,c1,c2,z,hw,hq,c3,Dcm.row,Nte.enc,wB]|apply kh<;>intro qa
   apply kF;simp only[go_sem]
   exact⟨10,rfl,fun h=>absurd h (by decide)⟩
  have rest:=rest (fun m' q' h h2=>by
   have:m'=m:=by omega
   subst this;rw[hq]at h2;injection h2 with h2;subst h2
   simp at c3;omega)
  cases c4:decide (n.tier<0)
  rotate_left
  ·repeat' first|(first|refine kcc ?_|refine kjj kq14 ?_|apply kU);simp only[go_sem,hn,c1,c2,z,hw,hq,c3,wB,c4,Dcm.row,Nte.enc]|apply kh<;>intro qa
   apply kF;simp only[go_sem]
   exact⟨2,rfl,fun h=>absurd h (by decide)⟩
  cases c5:decide ((d.tiers.length:Int)<=n.tier)
  rotate_left
  ·repeat' first|(first|refine kcc ?_|refine kjj kq14 ?_|apply kU);simp only[go_sem,hn,c1,c2,z,hw,hq,c3,wB,c4,c5,Dcm.row,Nte.enc]|apply kh<;>intro qa
   apply kF;simp only[go_sem]
   exact⟨2,rfl,fun h=>absurd h (by decide)⟩
  have g0:0<=n.tier:=by simp at c4;omega
  have g1:n.tier.toNat<d.tiers.length:=by simp at c5;omega
  obtain⟨t,ht⟩: ∃t,d.tiers[n.tier.toNat]? =some t:=⟨_,wc g1⟩
  have hP:=qgm d n t g0 ht hl
  simp only[Dcm.row,Nte.row]at hP
  cases c6:qbZ n.txt !=0
  rotate_left
  ·repeat' first|(first|refine kcc ?_|refine kjj kq14 ?_|refine kx hT ?_|apply kU);simp only[go_sem,hn,c1,c2,z,hw,hq,c3,wB,c4,c5,c6,Dcm.row,Nte.enc]|apply kh<;>intro qa
   apply kF;simp only[go_sem]
   exact⟨qbZ n.txt,rfl,fun h=>absurd h (by simpa using c6)⟩
  repeat' first|(first|refine kcc ?_|refine kjj kq14 ?_|refine kx hT ?_|apply kU);simp only[go_sem,hn,c1,c2,z,hw,hq,c3,wB,c4,c5,c6,Dcm.row,Nte.enc]|apply kh<;>intro qa
  refine CallC.nd (caps:=[]) (hP) (by simp only[go_sem]) (kP (by simp only[go_sem])) ?_
  rintro _ ⟨e,rfl,he⟩
  simp only[go_sem]
  repeat' first|(first|refine kcc ?_|refine kjj kq14 ?_|apply kU);simp only[go_sem]|apply kh<;>intro qa
  apply kF;simp only[go_sem]
  exact⟨e,rfl,fun h=>rest e h (hte (by simpa using c6)) ⟨t,by unfold QL;rw[if_pos g0];exact ht,he h⟩⟩
def TrN(d:Dcm)(t:Tir)(n:Nte):Prop:=(algK t.kind=true->¬ovl (sibs d n.tier n.par))/\(t.kind=3->rnk (sibs d n.tier n.par))/\(t.kind=4->(sibs d n.tier n.par).length<=1)
theorem qkz(d:Dcm)(i:Nat)(t:Tir)(ht:d.tiers[i]? =some t)(hl:d.notes.length<=10000):qo pP 58 [.agg d.row,dv (li i)] (fun r=>∃e:Int,r=dv (li e)/\(e=0->∀n∈d.notes,n.tier=i->TrN d t n)):=by
 have qK:=kmax
 have htl:=(wd.1 ht).1
 have hA:=ZC t.kind
 refine vt (N:=77) (rs:=[.tmp 4]) (by kernel_rfl) Tryz.func58 rfl rfl rfl (by simp) ?_
 repeat' first|(first|refine kcc ?_|refine kjj kq15 ?_|apply kU);simp only[go_sem,ht,Dcm.row,Tir.enc]|apply kh<;>intro qa
 refine qk (fun y:Nat×Int=>kn 77 [(1,dv (li i)),(2,.one (.bx 2 7 0 0)),(5,dv (li t.kind)),(6,dv (li y.2)),(7,dv (li y.1))] (ml [(2,[d.row])])) (fun y=>y.1<=d.notes.length/\(y.2=0->∀n∈d.notes.take y.1,n.tier=i->TrN d t n)) (fun y=>d.notes.length - y.1) (0,0) (km (by simp only[go_sem,Dcm.row])) ⟨by omega,by simp⟩ ?_
 rintro⟨k,e⟩ ⟨hk,hinv⟩
 simp only at hk hinv ⊢
 have hw:=qt k (by omega)
 cases hlt:decide ((k:Int)<(d.notes.length:Int))
 ·have hke:k=d.notes.length:=by simp at hlt;omega
  rw[hke,wh]at hinv
  repeat' first|(first|refine kcc ?_|refine kjj kq15 ?_|apply kU);simp only[go_sem,hlt,Dcm.row]|apply kh<;>intro qa
  apply kF;simp only[go_sem]
  exact⟨e,rfl,hinv⟩
 have hkl:k<d.notes.length:=by simp at hlt;omega
 obtain⟨n,hn⟩: ∃n,d.notes[k]? =some n:=⟨_,wc hkl⟩
 have htk:=qH hn
 have hS:=rSibs_D d i n.par hl
 cases c0:n.tier !=(i:Int)
 rotate_left
 ·have hne:n.tier≠i:=by simpa using c0
  repeat' first|(first|refine kcc ?_|apply kU);simp only[go_sem,hlt,hw,hn,c0,Dcm.row,Nte.enc]|apply kh<;>intro qa
  exact⟨(k+1,e),⟨by simp only;omega,fun h=>qv htk (hinv h) (fun hh=>absurd hh hne)⟩,by simp only;omega,kmm⟩
 have hnt:n.tier=i:=by simpa using c0
 have hsl:(sibs d i n.par).length<=d.notes.length:=wC _ _
 obtain⟨S,hSd⟩: ∃S,sibs d i n.par=S:=⟨_,rfl⟩
 rw[hSd]at hS hsl
 have hO:=rOvl_N S (by omega)
 have hRk:=qmJ S (by omega)
 have hSp:=qkC S (by omega)
 have hG:=vP d n.par (by omega)
 obtain⟨p,hp⟩: ∃p,getN d.notes n.par=p:=⟨_,rfl⟩
 rw[hp]at hG
 obtain⟨p,ok⟩:=p
 have hC:=qea (S.map Nte.span) p.span (by rw[we];omega)
 simp only[Dcm.row,Nte.row,Spn.row,Nte.span]at hS hG hC
 have good: ∀e':Int,(e'=0->e=0)->((algK t.kind=true->¬ovl S)/\(t.kind=3->rnk S)/\(t.kind=4->S.length<=1))->(e'=0->∀n∈d.notes.take (k+1),n.tier=i->TrN d t n):=fun e' he hf h=>qv htk (hinv (he h)) (fun _=>by unfold TrN;rw[hnt,hSd];exact hf)
 have badE: ∀e':Int,e'≠0->(e'=0->∀n∈d.notes.take (k+1),n.tier=i->TrN d t n):=fun e' hne h=>absurd h hne
 cases a0:algK t.kind
 ·rw[a0]at hA
  have k1:(t.kind==1)=false:=by cases h:t.kind==1 with
   | false=>rfl
   | true=>rw[show t.kind=1 by simpa using h]at a0;cases a0
  cases k3:t.kind==3
  ·cases k4:t.kind==4
   ·repeat' first|(first|refine kcc ?_|refine kjj kq15 ?_|refine kx hS ?_|refine kx hA ?_|refine kx hG ?_|apply kU);simp only[go_sem,hlt,hw,hn,c0,k1,k3,k4,Dcm.row,Nte.enc]|apply kh<;>intro qa
    exact⟨(k+1,e),⟨by simp only;omega,good e id ⟨(fun h=>by rw[a0]at h;cases h),(fun h=>by rw[h]at k3;cases k3),(fun h=>by rw[h]at k4;cases k4)⟩⟩,by simp only;omega,kmm⟩
   ·cases c6:decide ((1:Int)<(S.length:Int))
    ·repeat' first|(first|refine kcc ?_|refine kjj kq15 ?_|refine kx hS ?_|refine kx hA ?_|refine kx hG ?_|apply kU);simp only[go_sem,hlt,hw,hn,c0,k1,k3,k4,c6,Dcm.row,Nte.enc,we]|apply kh<;>intro qa
     exact⟨(k+1,e),⟨by simp only;omega,good e id ⟨(fun h=>by rw[a0]at h;cases h),(fun h=>by rw[h]at k3;cases k3),(fun _=>by simp at c6;omega)⟩⟩,by simp only;omega,kmm⟩
    ·repeat' first|(first|refine kcc ?_|refine kjj kq15 ?_|refine kx hS ?_|refine kx hA ?_|refine kx hG ?_|apply kU);simp only[go_sem,hlt,hw,hn,c0,k1,k3,k4,c6,Dcm.row,Nte.enc,we]|apply kh<;>intro qa
     exact⟨(k+1,8),⟨by simp only;omega,badE 8 (by decide)⟩,by simp only;omega,kmm⟩
  ·have k4:(t.kind==4)=false:=by rw[show t.kind=3 by simpa using k3];rfl
   repeat' first|(first|refine kcc ?_|refine kjj kq15 ?_|refine kx hS ?_|refine kx hA ?_|refine kx hG ?_|apply kU);simp only[go_sem,hlt,hn,c0,k1,k3,Dcm.row,Nte.enc]|apply kh<;>intro qa
   refine CallC.nd (caps:=[]) (hRk) (by simp only[go_sem]) (kP (by simp only[go_sem])) ?_
   rintro _ ⟨b,rfl,hb⟩
   simp only[go_sem]
   cases b
   ·repeat' first|(first|refine kcc ?_|refine kjj kq15 ?_|apply kU);simp only[go_sem,hw,k4]|apply kh<;>intro qa
    exact⟨(k+1,10),⟨by simp only;omega,badE 10 (by decide)⟩,by simp only;omega,kmm⟩
   ·repeat' first|(first|refine kcc ?_|refine kjj kq15 ?_|apply kU);simp only[go_sem,hw,k4]|apply kh<;>intro qa
    exact⟨(k+1,e),⟨by simp only;omega,good e id ⟨(fun h=>by rw[a0]at h;cases h),(fun _=>hb rfl),(fun h=>by rw[h]at k4;cases k4)⟩⟩,by simp only;omega,kmm⟩
 ·rw[a0]at hA
  have k3:(t.kind==3)=false:=by cases h:t.kind==3 with
   | false=>rfl
   | true=>rw[show t.kind=3 by simpa using h]at a0;cases a0
  have k4:(t.kind==4)=false:=by cases h:t.kind==4 with
   | false=>rfl
   | true=>rw[show t.kind=4 by simpa using h]at a0;cases a0
  repeat' first|(first|refine kcc ?_|refine kjj kq15 ?_|refine kx hS ?_|refine kx hA ?_|apply kU);simp only[go_sem,hlt,hn,c0,Dcm.row,Nte.enc]|apply kh<;>intro qa
  refine CallC.nd (caps:=[]) (hO) (by simp only[go_sem]) (kP (by simp only[go_sem])) ?_
  rintro _ ⟨b,rfl,hb⟩
  simp only[go_sem]
  cases b
  rotate_left
  ·repeat' first|(first|refine kcc ?_|refine kjj kq15 ?_|apply kU);simp only[go_sem]|apply kh<;>intro qa
   apply kF;simp only[go_sem]
   exact⟨15,rfl,fun h=>absurd h (by decide)⟩
  have hf:(algK t.kind=true->¬ovl S)/\(t.kind=3->rnk S)/\(t.kind=4->S.length<=1):=⟨fun _=>hb rfl,(fun h=>by rw[h]at k3;cases k3),(fun h=>by rw[h]at k4;cases k4)⟩
  rw[a0]at hf good
  cases k1:t.kind==1
  ·repeat' first|(first|refine kcc ?_|refine kjj kq15 ?_|refine kx hG ?_|apply kU);simp only[go_sem,hw,k1,k3,k4]|apply kh<;>intro qa
   exact⟨(k+1,e),⟨by simp only;omega,good e id hf⟩,by simp only;omega,kmm⟩
  ·cases cv:ZJ (S.map Nte.span) ⟨p.fr,p.tg⟩
   ·rw[cv]at hC
    repeat' first|(first|refine kcc ?_|refine kjj kq15 ?_|refine kx hG ?_|refine kx hSp ?_|refine kx hC ?_|apply kU);simp only[go_sem,hw,k1,k3,k4]|apply kh<;>intro qa
    exact⟨(k+1,16),⟨by simp only;omega,badE 16 (by decide)⟩,by simp only;omega,kmm⟩
   ·rw[cv]at hC
    repeat' first|(first|refine kcc ?_|refine kjj kq15 ?_|refine kx hG ?_|refine kx hSp ?_|refine kx hC ?_|apply kU);simp only[go_sem,hw,k1,k3,k4]|apply kh<;>intro qa
    exact⟨(k+1,e),⟨by simp only;omega,good e id hf⟩,by simp only;omega,kmm⟩
theorem chk_of{d:Dcm}(h1: ∀(i:Nat) t,d.tiers[i]? =some t->TirD d.tiers i t)(h2: ∀(k:Nat) n,d.notes[k]? =some n->NteD d k n)(h3: ∀(i:Nat) t,d.tiers[i]? =some t->∀n∈d.notes,n.tier=i->TrN d t n):ChkD d where
 up:=by
  have key: ∀(j k:Nat) (a b:Nte),j<k->d.notes[j]? =some a->d.notes[k]? =some b->a.id<b.id:=by
   intro j k
   induction k with
   | zero=>intro a b h;omega
   | succ k ih=>
    intro a b h ha hb
    obtain⟨c,hc⟩: ∃c,d.notes[k]? =some c:=⟨_,wc (by have:=(wd.1 hb).1;omega)⟩
    have h9:=(h2 (k+1) b hb).up k c rfl hc
    rcases yu.1 h with h|h
    ·have:=ih a c h ha hc;omega
    ·subst h;rw[hc]at ha;injection ha with ha;rw[<-ha];exact h9
  rw[List.pairwise_iff_getElem]
  intro i j hi hj hij
  exact key i j _ _ hij (wc hi) (wc hj)
 pos:=fun n hn=>by
  obtain⟨k,hk⟩:=yq.1 hn
  exact(h2 k n hk).lo
 tier:=fun i t ht=>⟨⟨(h1 i t ht).k0,(h1 i t ht).k4⟩,(h1 i t ht).par,(h1 i t ht).role⟩
 note:=fun n hn=>by
  obtain⟨k,hk⟩:=yq.1 hn
  obtain⟨t,ht,hp⟩:=(h2 k n hk).plc
  have h0:0<=n.tier/\d.tiers[n.tier.toNat]? =some t:=by
   unfold QL at ht;split at ht
   ·rename_i h;exact⟨h,ht⟩
   ·cases ht
  exact⟨t,ht,hp,h3 _ t h0.2 n hn (by omega)⟩
structure DocD(d:Dcm):Prop where
 chk:ChkD d
 ids: ∀n∈d.notes,n.id<=1099511627776
 txt: ∀n∈d.notes,n.txt.size<=200
theorem qkP(d:Dcm)(hl:d.notes.length<=10000)(ht:d.tiers.length<=10000)(hs: ∀t∈d.tiers,t.name.size<=1048576):qo pP 21 [.agg d.row] (fun r=>∃e:Int,r=dv (li e)/\(e=0->DocD d)):=by
 have qK:=kmax
 have hC:=qkQ d.tiers (by omega) hs
 refine vt (N:=54) (rs:=[.tmp 2]) (by kernel_rfl) Tryz.func21 rfl rfl rfl (by simp) ?_
 repeat' first|(first|refine kcc ?_|apply kU);simp only[go_sem,Dcm.row]|apply kh<;>intro qa
 refine CallC.nd (caps:=[]) (hC) (by simp only[go_sem]) (kP (by simp only[go_sem])) ?_
 rintro _ ⟨e,rfl,he⟩
 simp only[go_sem]
 cases t1:e !=0
 rotate_left
 ·repeat' first|(first|refine kcc ?_|apply kU);simp only[go_sem,t1]|apply kh<;>intro qa
  apply kF;simp only[go_sem]
  exact⟨e,rfl,fun h=>absurd h (by simpa using t1)⟩
 have hT:=he (by simpa using t1)
 cases t2:decide (d.rc.len<0)
 rotate_left
 ·repeat' first|(first|refine kcc ?_|apply kU);simp only[go_sem,t1,t2]|apply kh<;>intro qa
  apply kF;simp only[go_sem]
  exact⟨12,rfl,fun h=>absurd h (by decide)⟩
 cases t3:decide ((86400000:Int)<d.rc.len)
 rotate_left
 ·repeat' first|(first|refine kcc ?_|apply kU);simp only[go_sem,t1,t2,t3]|apply kh<;>intro qa
  apply kF;simp only[go_sem]
  exact⟨12,rfl,fun h=>absurd h (by decide)⟩
 cases t4:decide ((300:Int)<(d.notes.length:Int))
 rotate_left
 ·repeat' first|(first|refine kcc ?_|apply kU);simp only[go_sem,t1,t2,t3,t4]|apply kh<;>intro qa
  apply kF;simp only[go_sem]
  exact⟨11,rfl,fun h=>absurd h (by decide)⟩
 repeat' first|(first|refine kcc ?_|apply kU);simp only[go_sem,t1,t2,t3,t4]|apply kh<;>intro qa
 refine qC d.notes (fun k=>kn 54 [(1,.one (.bx 1 7 0 0)),(4,dv (li k))] (ml [(1,[d.row])])) (fun k=>∀(j:Nat) n,j<k->d.notes[j]? =some n->NteD d j n) (by omega) (km (by simp only[go_sem,Dcm.row])) (by intro j n h;omega) ?_ ?_
 ·intro k n hn hk hm htk hlt hw hinv
  have hN:=qkE d k n hn hl
  simp only[Dcm.row]at hN
  repeat' first|(first|refine kcc ?_|apply kU);simp only[go_sem,hlt,Dcm.row]|apply kh<;>intro qa
  refine CallC.nd (caps:=[]) (hN) (by simp only[go_sem]) (kP (by simp only[go_sem])) ?_
  rintro _ ⟨e,rfl,he⟩
  simp only[go_sem]
  cases t5:e !=0
  ·repeat' first|(first|refine kcc ?_|apply kU);simp only[go_sem,t5,hw]|apply kh<;>intro qa
   refine⟨fun j m hj hm'=>?_,kmm⟩
   rcases yu.1 hj with h|h
   ·exact hinv j m h hm'
   ·subst h
    rw[hn]at hm';injection hm' with hm';rw[<-hm']
    exact he (by simpa using t5)
  ·repeat' first|(first|refine kcc ?_|apply kU);simp only[go_sem,t5]|apply kh<;>intro qa
   apply kF;simp only[go_sem]
   exact⟨e,rfl,fun h=>absurd h (by simpa using t5)⟩
 intro hlt hinv
 have hN2: ∀(k:Nat) n,d.notes[k]? =some n->NteD d k n:=fun k n hn=>hinv k n (wd.1 hn).1 hn
 repeat' first|(first|refine kcc ?_|apply kU);simp only[go_sem,hlt,Dcm.row]|apply kh<;>intro qa
 refine qC d.tiers (fun k=>kn 54 [(1,.one (.bx 1 7 0 0)),(6,dv (li k))] (ml [(1,[d.row])])) (fun k=>∀(j:Nat) t,j<k->d.tiers[j]? =some t->∀n∈d.notes,n.tier=j->TrN d t n) (by omega) (km (by simp only[go_sem,Dcm.row])) (by intro j n h;omega) ?_ ?_
 ·intro k t ht' hk hm htk hlt hw hinv
  have hN:=qkz d k t ht' hl
  simp only[Dcm.row]at hN
  repeat' first|(first|refine kcc ?_|apply kU);simp only[go_sem,hlt,Dcm.row]|apply kh<;>intro qa
  refine CallC.nd (caps:=[]) (hN) (by simp only[go_sem]) (kP (by simp only[go_sem])) ?_
  rintro _ ⟨e,rfl,he⟩
  simp only[go_sem]
  cases t5:e !=0
  ·repeat' first|(first|refine kcc ?_|apply kU);simp only[go_sem,t5,hw]|apply kh<;>intro qa
   refine⟨fun j m hj hm'=>?_,kmm⟩
   rcases yu.1 hj with h|h
   ·exact hinv j m h hm'
   ·subst h
    rw[ht']at hm';injection hm' with hm';rw[<-hm']
    exact he (by simpa using t5)
  ·repeat' first|(first|refine kcc ?_|apply kU);simp only[go_sem,t5]|apply kh<;>intro qa
   apply kF;simp only[go_sem]
   exact⟨e,rfl,fun h=>absurd h (by simpa using t5)⟩
 intro hlt qlk
 repeat' first|(first|refine kcc ?_|apply kU);simp only[go_sem,hlt,Dcm.row]|apply kh<;>intro qa
 apply kF;simp only[go_sem]
 refine⟨0,rfl,fun _=>⟨chk_of hT hN2 (fun j t ht=>qlk j t (wd.1 ht).1 ht),fun n hn=>?_,fun n hn=>?_⟩⟩
 ·obtain⟨k,hk⟩:=yq.1 hn
  exact(hN2 k n hk).hi
 ·obtain⟨k,hk⟩:=yq.1 hn
  exact(hN2 k n hk).txt
theorem qkI(d:Dcm)(hs: ∀t∈d.tiers,t.name.size<=1048576):qo pP 4 [.agg d.row] (fun r=>∃b:Bool,r=dv (lb b)/\(b=true->DocD d/\d.notes.length<=14/\d.tiers.length<=6/\d.rc.sp.length<=6)):=by
 refine vt (N:=25) (rs:=[.tmp 2]) (by kernel_rfl) Tryz.func4 rfl rfl rfl (by simp) ?_
 cases t1:decide ((d.notes.length:Int)<=14)
 ·repeat' first|(first|refine kcc ?_|apply kU);simp only[go_sem,t1,Dcm.row]|apply kh<;>intro qa
  apply kF;simp only[go_sem]
  exact⟨false,rfl,fun h=>by cases h⟩
 cases t2:decide ((d.tiers.length:Int)<=6)
 ·repeat' first|(first|refine kcc ?_|apply kU);simp only[go_sem,t1,t2,Dcm.row]|apply kh<;>intro qa
  apply kF;simp only[go_sem]
  exact⟨false,rfl,fun h=>by cases h⟩
 cases t3:decide ((d.rc.sp.length:Int)<=6)
 ·repeat' first|(first|refine kcc ?_|apply kU);simp only[go_sem,t1,t2,t3,Dcm.row,we]|apply kh<;>intro qa
  apply kF;simp only[go_sem]
  exact⟨false,rfl,fun h=>by cases h⟩
 have l1:d.notes.length<=14:=by simp at t1;omega
 have l2:d.tiers.length<=6:=by simp at t2;omega
 have l3:d.rc.sp.length<=6:=by simp at t3;omega
 have hC:=qkP d (by omega) (by omega) hs
 simp only[Dcm.row]at hC
 repeat' first|(first|refine kcc ?_|apply kU);simp only[go_sem,t1,t2,t3,Dcm.row,we]|apply kh<;>intro qa
 refine CallC.nd (caps:=[]) (hC) (by simp only[go_sem]) (kP (by simp only[go_sem])) ?_
 rintro _ ⟨e,rfl,he⟩
 simp only[go_sem]
 repeat' first|(first|refine kcc ?_|apply kU);simp only[go_sem]|apply kh<;>intro qa
 apply kF;simp only[go_sem]
 exact⟨e==0,rfl,fun h=>⟨he (by simpa using h),l1,l2,l3⟩⟩
theorem qhX(d:Dcm)(W:WfD d)(sp:List Spn)(id:Int)(hl:d.notes.length<=10000)(ht:d.tiers.length<=10000)(hs:sp.length<=10000):DCalls pP 20 [.agg d.row,dv (.sl 2 (spns sp)),dv (li id)] (dv (lb (qf9 d sp id))):=by
 have hW:=qeV d W id (by omega) (by omega)
 have hC:=qea sp (d.wher id).1 hs
 unfold qf9
 generalize d.wher id=p at*
 obtain⟨s,ok⟩:=p
 simp only[Dcm.row,Spn.row]at hW hC
 refine kd (N:=21) (rs:=[.tmp 6]) Tryz.func20 ?_
 cases ok
 ·repeat' first|(first|refine kcc ?_|refine kx hW ?_|refine kx hC ?_|apply kU|apply kF);simp only[go_sem,Dcm.row]|apply kh<;>intro qa
 ·repeat' first|(first|refine kcc ?_|refine kx hW ?_|refine kx hC ?_|apply kU|apply kF);simp only[go_sem,Dcm.row]|apply kh<;>intro qa
def sibB(d:Dcm)(a b:Nte):Bool:=a.tier==b.tier&&(a.par==b.par&&Zn d.tiers a.tier)
theorem qkD(d:Dcm)(W:WfD d)(a b:Nte)(ha:a∈d.notes):DCalls pP 94 [.agg d.row,.agg a.row,.agg b.row] (dv (lb (sibB d a b))):=by
 obtain⟨h0,h1,t,ht⟩:=W.tier ha
 have h2:a.tier.toNat<d.tiers.length:=by omega
 have hp:Zn d.tiers a.tier=(t.kind==1):=by unfold Zn QL;rw[if_pos h0,ht]
 unfold sibB
 rw[hp]
 refine kd (N:=29) (rs:=[.tmp 6]) Tryz.func94 ?_
 cases t1:a.tier==b.tier
 ·repeat' first|(first|refine kcc ?_|apply kU|apply kF);simp only[go_sem,Dcm.row,Nte.row,t1]|apply kh<;>intro qa
 ·cases t2:a.par==b.par
  ·repeat' first|(first|refine kcc ?_|apply kU|apply kF);simp only[go_sem,Dcm.row,Nte.row,t1,t2]|apply kh<;>intro qa
  ·repeat' first|(first|refine kcc ?_|apply kU|apply kF);simp only[go_sem,Dcm.row,Nte.row,Tir.enc,t1,t2,h0,ht]|apply kh<;>intro qa
end Go.Proofs.YtaaodllggdjhiaaGreatDoor
namespace Go.Proofs.YtaaodllggdjhiaaGreatDoor
abbrev kpm20:List (Nat×Go.Dl.Mode):=[(0,.light),(1,.light),(2,.light),(3,.light),(4,.light),(5,.light),(6,.light),(7,.light),(8,.light),(9,.light),(10,.light),(11,.light),(12,.step)]
abbrev kpm21:List (Nat×Go.Dl.Mode):=[(0,.light),(1,.light),(2,.light),(3,.light),(4,.light),(5,.light),(6,.light),(7,.light),(8,.light),(9,.light),(10,.light),(11,.light),(12,.light),(13,.light),(14,.step),(15,.light),(16,.light),(17,.light),(18,.light),(19,.light),(20,.light),(21,.light),(22,.light),(23,.light),(24,.light),(25,.light),(26,.light),(27,.step),(28,.light)]
abbrev kq16:Nat->List (Nat×Go.Dl.Mode):=fun n=>match n with|5=>kpm20|16=>kpm21|_=>[]
end Go.Proofs.YtaaodllggdjhiaaGreatDoor
namespace Go.Proofs.YtaaodllggdjhiaaGreatDoor
open Go.Dl
attribute [local irreducible] DW DCalls ECalls qo wk IW
def relB(d:Dcm)(a b:Nte):Bool:=inL (d.chain b.id) a.id||sibB d a b
structure KI(d:Dcm)(seen:Int->Bool)(f:Nat->Bool):Prop where
 sound: ∀(i:Nat) n,d.notes[i]? =some n->f i=true->Kp d seen n
 seen: ∀(i:Nat) n,d.notes[i]? =some n->seen n.id=true->f i=true
def qiY(d:Dcm)(f:Nat->Bool):Prop:=∀(i k:Nat) a b,d.notes[i]? =some a->d.notes[k]? =some b->f k=true->relB d a b=true->f i=true
def cntK(f:Nat->Bool)(n:Nat):Nat:=(List.range n).countP fun i=> !f i
def updK(f:Nat->Bool)(i:Nat):Nat->Bool:=fun j=>if j=i then true else f j
theorem cnt_upd{f:Nat->Bool}{n i:Nat}(hi:i<n)(h:f i=false):cntK (updK f i) n<cntK f n:=by
 unfold cntK
 refine qa2 (fun x _ hx=>?_) ⟨i,y9.2 hi,by simp[h],by simp[updK]⟩
 unfold updK at hx
 split at hx
 ·simp at hx
 ·exact hx
theorem kp_rel{d:Dcm}(W:WfD d){seen:Int->Bool}{a b:Nte}(ha:a∈d.notes)(hb:Kp d seen b)(h:relB d a b=true):Kp d seen a:=by
 unfold relB at h
 rw[yX]at h
 rcases h with h|h
 ·have hm:=inL_mem.1 h
  unfold Dcm.chain at hm
  obtain⟨c,hc,e⟩:=wI.1 hm
  have:=kp_up W (b.tier.toNat+1) b hb (by have:=(W.tier hb.mem).1;omega) c hc
  rw[<-W.inj (W.up_mem b.id c hc) ha e];exact this
 ·unfold sibB at h
  simp only[wu,beq_iff_eq]at h
  exact .sib b a hb ha h.1 h.2.1 (by rw[<-h.1];exact h.2.2)
theorem qnG{d:Dcm}(W:WfD d){seen:Int->Bool}{f:Nat->Bool}(h:KI d seen f)(hc:qiY d f){i:Nat}{n:Nte}(hn:d.notes[i]? =some n):f i=true↔Kp d seen n:=by
 refine⟨h.sound i n hn,fun hk=>?_⟩
 have key:=Kp.all (d:=d) (seen:=seen) (P:=fun n=>∀j,d.notes[j]? =some n->f j=true) (fun n _ hs j hj=>h.seen j n hj hs) (fun a ha hp b hb e j hj=>?_) (fun a ha hp b hb ht hpa hk j hj=>?_) n hk i hn
 ·exact key
 ·obtain⟨k,hk⟩:=yq.1 ha
  refine hc j k b a hj hk (hp k hk) ?_
  unfold relB
  rw[yX];left
  refine inL_mem.2 ?_
  unfold Dcm.chain
  rw[W.up_cons ha,wt]
  refine List.mem_cons_of_mem _ ?_
  rw[<-e,W.up_cons hb];simp
 ·obtain⟨k,hk'⟩:=yq.1 ha
  refine hc j k b a hj hk' (hp k hk') ?_
  unfold relB sibB
  rw[yX];right
  simp[ht,hpa,hk]
structure PI(d:Dcm)(seen:Int->Bool)(f0 f:Nat->Bool)(more:Bool)(i k:Nat):Prop where
 ki:KI d seen f
 same:more=false->f=f0
 less:more=true->cntK f d.notes.length<cntK f0 d.notes.length
 done:more=false->∀(i' k':Nat) a b,(i'<i\/(i'=i/\k'<k))->d.notes[i']? =some a->d.notes[k']? =some b->f0 k'=true->relB d a b=true->f0 i'=true
theorem PI.start{d:Dcm}{seen:Int->Bool}{f:Nat->Bool}(h:KI d seen f):PI d seen f f false 0 0:=⟨h,fun _=>rfl,(fun h=>by cases h),fun _ i' k' a b h=>by omega⟩
theorem PI.row{d:Dcm}{seen:Int->Bool}{f0 f:Nat->Bool}{more:Bool}{i:Nat}(h:PI d seen f0 f more i d.notes.length):PI d seen f0 f more (i+1) 0:=
 ⟨h.ki,h.same,h.less,fun hm i' k' a b hh ha hb=>h.done hm i' k' a b (by have:=(wd.1 hb).1;omega) ha hb⟩
theorem PI.skip{d:Dcm}{seen:Int->Bool}{f0 f:Nat->Bool}{more:Bool}{i k:Nat}{a b:Nte}(h:PI d seen f0 f more i k)(ha:d.notes[i]? =some a)(hb:d.notes[k]? =some b)(hs:f i=true\/f k=false\/relB d a b=false):PI d seen f0 f more i (k+1):=
 ⟨h.ki,h.same,h.less,fun hm i' k' a' b' hh ha' hb' hk hr=>by
  by_cases e:i'=i/\k'=k
  ·obtain⟨e1,e2⟩:=e
   subst e1;subst e2
   rw[ha]at ha';injection ha' with ha';subst ha'
   rw[hb]at hb';injection hb' with hb';subst hb'
   have:=h.same hm
   subst this
   rcases hs with hs|hs|hs
   ·exact hs
   ·rw[hs]at hk;cases hk
   ·rw[hs]at hr;cases hr
  ·exact h.done hm i' k' a' b' (by omega) ha' hb' hk hr⟩
theorem PI.mark{d:Dcm}(W:WfD d){seen:Int->Bool}{f0 f:Nat->Bool}{more:Bool}{i k:Nat}{a b:Nte}(h:PI d seen f0 f more i k)(ha:d.notes[i]? =some a)(hb:d.notes[k]? =some b)(hi:f i=false)(hk:f k=true)(hr:relB d a b=true):PI d seen f0 (updK f i) true i (k+1):=by
 have hlt:=(wd.1 ha).1
 refine⟨⟨fun j n hn hj=>?_,fun j n hn hs=>?_⟩,(fun h=>by cases h),fun _=>?_,(fun h=>by cases h)⟩
 ·unfold updK at hj
  split at hj
  ·rename_i e;subst e
   rw[ha]at hn;injection hn with hn;subst hn
   exact kp_rel W (wl ha) (h.ki.sound k b hb hk) hr
  ·exact h.ki.sound j n hn hj
 ·unfold updK
  split
  ·rfl
  ·exact h.ki.seen j n hn hs
 ·have h1:=cnt_upd hlt hi
  cases more with
  | false=>rw[h.same rfl]at h1 ⊢;exact h1
  | true=>exact Nat.lt_trans h1 (h.less rfl)
theorem qoC(f:Nat->Bool)(n i:Nat):(vk f n).set i [T.c (lb true)]=vk (updK f i) n:=by rw[qdC];rfl
theorem rKept_D(d:Dcm)(W:WfD d)(sp:List Spn)(hl:d.notes.length<=10000)(ht:d.tiers.length<=10000)(hs:sp.length<=10000):DCalls pP 41 [.agg d.row,dv (.sl 2 (spns sp))] (dv (.sl 1 (ints ((Z5 d (qf9 d sp)).map (·.id))))):=by
 have qK:=kmax
 have hb4:Tryz.t4.bytes*d.notes.length<=281474976710656:=by
  have:Tryz.t4.bytes=1:=by kernel_rfl
  rw[this];omega
 have hseen:=fun id=>qhX d W sp id hl ht hs
 generalize hgs:qf9 d sp=seen at*
 obtain⟨g,hg⟩: ∃g:Nat->Bool,g=fun i=>seen ((d.notes[i]?).getD noNte).id:=⟨_,rfl⟩
 refine kd (N:=114) (rs:=[.tmp 4]) Tryz.func41 ?_
 repeat' first|(first|refine kcc ?_|refine kjj kq16 ?_|apply kU);simp +decide only[go_sem,Dcm.row]|apply kh<;>intro qa
 refine StepC.mk (Step.makeSlice (n:=d.notes.length) (e:=4) (z:=[T.c (lb false)]) (inf:=Tryz.t4) (kx:=.i64) (ky:=.i64) rfl rfl (by kernel_rfl) (by kernel_rfl) (by kernel_rfl) (by decide) (by kernel_rfl) (by simp +decide only[go_sem]) (by simp +decide only[go_sem]) (by simp;omega) hb4 (by omega) ?_)
 rw[qdD,qnf g]
 simp +decide only[go_sem]
 repeat' first|(first|refine kcc ?_|refine kjj kq16 ?_|apply kU);simp +decide only[go_sem]|apply kh<;>intro qa
 refine vz (fun _:Unit=>kn 114 [(2,.one (.bx 2 7 0 0)),(5,.one (.ba 15 1 0 d.notes.length d.notes.length))] (ml [(2,[d.row]),(15,vk g d.notes.length)])) (fun _=>True) ?_ ?_
 ·refine qj d.notes (fun k=>kn 114 [(1,dv (.sl 2 (spns sp))),(2,.one (.bx 2 7 0 0)),(5,.one (.ba 15 1 0 d.notes.length d.notes.length)),(6,dv (li k))] (ml [(2,[d.row]),(15,vk (fun i=>decide (i<k)&&g i) d.notes.length)])) (by omega) (km (by simp +decide only[go_sem,Dcm.row])) ?_ ?_
  ·intro k n hn hk hm htk hlt hw
   have hS:=hseen n.id
   have hgk:seen n.id=g k:=by rw[hg];simp only[hn,yP]
   have Qu:=qnh g d.notes.length k
   rw[<-hgk]at Qu
   have hkT:(k<d.notes.length)=True:=eq_true hk
   have qdJ:(vk (fun i=>decide (i<k)&&g i) d.notes.length)[k]? =some [T.c (lb (decide (k<k)&&g k))]:=vG _ hk
   simp only[Dcm.row]at hS
   repeat' first|(first|refine kcc ?_|refine kjj kq16 ?_|refine kx hS ?_|apply kU);simp +decide only[go_sem,hlt,hw,hn,hkT,qdJ,Qu,wj,ww,Dcm.row,Nte.enc]|apply kh<;>intro qa
   exact kmm
  ·intro hlt
   repeat' first|(first|refine kcc ?_|refine kjj kq16 ?_|apply kU);simp +decide only[go_sem,hlt,Dcm.row]|apply kh<;>intro qa
   exact⟨(),km (by simp +decide only[go_sem,qro])⟩
 rintro - -
 have hk0:KI d seen g:=⟨fun i n hn hi=>.seen n (wl hn) (by rw[hg]at hi;simpa only[hn,yP]using hi),fun i n hn hs=>by rw[hg];simp only[hn,yP];exact hs⟩
 clear hg
 repeat' first|(first|refine kcc ?_|refine kjj kq16 ?_|apply kU);simp +decide only[go_sem]|apply kh<;>intro qa
 refine vz (fun f:Nat->Bool=>kn 114 [(2,.one (.bx 2 7 0 0)),(5,.one (.ba 15 1 0 d.notes.length d.notes.length))] (ml [(2,[d.row]),(15,vk f d.notes.length)])) (fun f=>KI d seen f/\qiY d f) ?_ ?_
 ·refine qk (fun y:(Nat->Bool)×Bool=>kn 114 [(2,.one (.bx 2 7 0 0)),(5,.one (.ba 15 1 0 d.notes.length d.notes.length)),(7,dv (lb y.2))] (ml [(2,[d.row]),(15,vk y.1 d.notes.length)])) (fun y=>KI d seen y.1/\(y.2=false->qiY d y.1)) (fun y=>2*cntK y.1 d.notes.length+if y.2=true then 1 else 0) (g,true) (km (by simp +decide only[go_sem,Dcm.row])) ⟨hk0,fun h=>by cases h⟩ ?_
  rintro⟨f0,more⟩ ⟨hki,hcl⟩
  simp only at hki hcl ⊢
  cases more
  ·repeat' first|(first|refine kcc ?_|refine kjj kq16 ?_|apply kU);simp +decide only[go_sem]|apply kh<;>intro qa
   exact⟨f0,⟨hki,hcl rfl⟩,km (by simp +decide only[go_sem,Dcm.row])⟩
  repeat' first|(first|refine kcc ?_|refine kjj kq16 ?_|apply kU);simp +decide only[go_sem]|apply kh<;>intro qa
  refine qk (fun y:Nat×(Nat->Bool)×Bool=>kn 114 [(2,.one (.bx 2 7 0 0)),(5,.one (.ba 15 1 0 d.notes.length d.notes.length)),(7,dv (lb y.2.2)),(8,dv (li y.1))] (ml [(2,[d.row]),(15,vk y.2.1 d.notes.length)])) (fun y=>y.1<=d.notes.length/\PI d seen f0 y.2.1 y.2.2 y.1 0) (fun y=>d.notes.length - y.1) (0,f0,false) (km (by simp +decide only[go_sem,Dcm.row])) ⟨by omega,PI.start hki⟩ ?_
  rintro⟨i,f,more⟩ ⟨hi,hpi⟩
  simp only at hi hpi ⊢
  have hwi:=qt i (by omega)
  cases c0:decide ((i:Int)<(d.notes.length:Int))
  ·have hie:i=d.notes.length:=by simp at c0;omega
   repeat' first|(first|refine kcc ?_|refine kjj kq16 ?_|apply kU);simp +decide only[go_sem,c0,Dcm.row]|apply kh<;>intro qa
   refine⟨(f,more),⟨hpi.ki,fun hm=>?_⟩,?_,kmm⟩
   ·simp only at hm ⊢
    rw[hpi.same hm]
    exact fun i' k' a b ha hb=>hpi.done hm i' k' a b (by have:=(wd.1 ha).1;omega) ha hb
   ·simp only
    cases more with
    | false=>rw[hpi.same rfl];simp
    | true=>have:=hpi.less rfl;simp;omega
  have hil:i<d.notes.length:=by simp at c0;omega
  obtain⟨a,ha⟩: ∃a,d.notes[i]? =some a:=⟨_,wc hil⟩
  have ham:=wl ha
  have hiT:(i<d.notes.length)=True:=eq_true hil
  repeat' first|(first|refine kcc ?_|refine kjj kq16 ?_|apply kU);simp +decide only[go_sem,c0,Dcm.row]|apply kh<;>intro qa
  refine qk (fun y:Nat×(Nat->Bool)×Bool=>kn 114 [(2,.one (.bx 2 7 0 0)),(5,.one (.ba 15 1 0 d.notes.length d.notes.length)),(7,dv (lb y.2.2)),(8,dv (li i)),(9,dv (li y.1))] (ml [(2,[d.row]),(15,vk y.2.1 d.notes.length)])) (fun y=>y.1<=d.notes.length/\PI d seen f0 y.2.1 y.2.2 i y.1) (fun y=>d.notes.length - y.1) (0,f,more) (km (by simp +decide only[go_sem,Dcm.row])) ⟨by omega,hpi⟩ ?_
  rintro⟨k,f,more⟩ ⟨hk,hpi⟩
  simp only at hk hpi ⊢
  have hwk:=qt k (by omega)
  cases c1:decide ((k:Int)<(d.notes.length:Int))
  ·have hke:k=d.notes.length:=by simp at c1;omega
   rw[hke]at hpi
   repeat' first|(first|refine kcc ?_|refine kjj kq16 ?_|apply kU);simp +decide only[go_sem,c1,hwi,Dcm.row]|apply kh<;>intro qa
   exact⟨(i+1,f,more),⟨by simp only;omega,hpi.row⟩,by simp only;omega,kmm⟩
  have hkl:k<d.notes.length:=by simp at c1;omega
  obtain⟨b,hb⟩: ∃b,d.notes[k]? =some b:=⟨_,wc hkl⟩
  have hkT:(k<d.notes.length)=True:=eq_true hkl
  have hfi:=vG f hil
  have hfk:=vG f hkl
  cases c2:f i
  rotate_left
  ·rw[c2]at hfi
   repeat' first|(first|refine kcc ?_|refine kjj kq16 ?_|apply kU);simp +decide only[go_sem,c1,hwk,hiT,hfi,Dcm.row]|apply kh<;>intro qa
   exact⟨(k+1,f,more),⟨by simp only;omega,hpi.skip ha hb (.inl c2)⟩,by simp only;omega,kmm⟩
  rw[c2]at hfi
  cases c3:f k
  ·rw[c3]at hfk
   repeat' first|(first|refine kcc ?_|refine kjj kq16 ?_|apply kU);simp +decide only[go_sem,c1,hwk,hiT,hkT,hfi,hfk,Dcm.row]|apply kh<;>intro qa
   exact⟨(k+1,f,more),⟨by simp only;omega,hpi.skip ha hb (.inr (.inl c3))⟩,by simp only;omega,kmm⟩
  rw[c3]at hfk
  have hC:=qeZ d W b.id (by omega) (by omega)
  have hcl':(d.chain b.id).length<=d.tiers.length:=by unfold Dcm.chain;rw[we];exact W.up_le b.id
  have hH:DCalls pP 92 [dv (.sl 1 (ints (d.chain b.id))),dv (li a.id)] (dv (lb (inL (d.chain b.id) a.id))):=ZA (d.chain b.id) a.id (by omega)
  have hSb:=qkD d W a b ham
  simp only[Dcm.row,Nte.row]at hC hSb
  have Qu:=qoC f d.notes.length i
  cases c4:inL (d.chain b.id) a.id
  ·rw[c4]at hH
   cases c5:sibB d a b
   ·rw[c5]at hSb
    repeat' first|(first|refine kcc ?_|refine kjj kq16 ?_|refine kx hC ?_|refine kx hH ?_|refine kx hSb ?_|apply kU);simp +decide only[go_sem,c1,hwk,hiT,hkT,hfi,hfk,ha,hb,Dcm.row,Nte.enc]|apply kh<;>intro qa
    exact⟨(k+1,f,more),⟨by simp only;omega,hpi.skip ha hb (.inr (.inr (by unfold relB;rw[c4,c5];rfl)))⟩,by simp only;omega,kmm⟩
   ·rw[c5]at hSb
    repeat' first|(first|refine kcc ?_|refine kjj kq16 ?_|refine kx hC ?_|refine kx hH ?_|refine kx hSb ?_|apply kU);simp +decide only[go_sem,c1,hwk,hiT,hkT,hfi,hfk,ha,hb,Qu,wj,ww,Dcm.row,Nte.enc]|apply kh<;>intro qa
    exact⟨(k+1,updK f i,true),⟨by simp only;omega,hpi.mark W ha hb c2 c3 (by unfold relB;rw[c4,c5];rfl)⟩,by simp only;omega,kmm⟩
  ·rw[c4]at hH
   repeat' first|(first|refine kcc ?_|refine kjj kq16 ?_|refine kx hC ?_|refine kx hH ?_|refine kx hSb ?_|apply kU);simp +decide only[go_sem,c1,hwk,hiT,hkT,hfi,hfk,ha,hb,Qu,wj,ww,Dcm.row,Nte.enc]|apply kh<;>intro qa
   exact⟨(k+1,updK f i,true),⟨by simp only;omega,hpi.mark W ha hb c2 c3 (by unfold relB;rw[c4];rfl)⟩,by simp only;omega,kmm⟩
 rintro f ⟨hki,hcl⟩
 repeat' first|(first|refine kcc ?_|refine kjj kq16 ?_|apply kU);simp +decide only[go_sem]|apply kh<;>intro qa
 refine zl 10 10 1 (by simp +decide only[go_sem]) ?_
 refine qj d.notes (fun k=>kn 114 [(2,.one (.bx 2 7 0 0)),(5,.one (.ba 15 1 0 d.notes.length d.notes.length)),(10,.one (.own 10 1 (ints (((d.notes.take k).filter fun n=>@decide (Kp d seen n) (Classical.propDecidable _)).map (·.id))))),(11,dv (li k))] (ml [(2,[d.row]),(15,vk f d.notes.length)])) (by omega) (kM rfl (by simp +decide only[go_sem,wg,yi,wn]) (by simp +decide only[go_sem,Dcm.row])) ?_ ?_
 ·intro k n hn hk hm htk hlt hw
  have hfk:=vG f hk
  have hkT:(k<d.notes.length)=True:=eq_true hk
  have hiff:=qnG W hki hcl hn
  have hfl:((d.notes.take k).filter fun n=>@decide (Kp d seen n) (Classical.propDecidable _)).length<=d.notes.length:=by
   have:=wC (fun n=>@decide (Kp d seen n) (Classical.propDecidable _)) (d.notes.take k)
   rw[wx]at this;omega
  rw[qZ _ htk,wJ]
  generalize (d.notes.take k).filter (fun n=>@decide (Kp d seen n) (Classical.propDecidable _))=q at hfl ⊢
  have hb8:((q.length+1)*8<=140737488355328)=True:=eq_true (by omega)
  cases c1:f k
  ·have e: @decide (Kp d seen n) (Classical.propDecidable _)=false:=@decide_eq_false _ (Classical.propDecidable _) (fun h=>by rw[hiff.2 h]at c1;cases c1)
   rw[c1]at hfk
   rw[e,if_neg (by decide)]
   repeat' first|(first|refine kcc ?_|refine kjj kq16 ?_|apply kU);simp +decide only[go_sem,hlt,hw,hkT,hfk,Dcm.row]|apply kh<;>intro qa
   exact kmm
  ·have e: @decide (Kp d seen n) (Classical.propDecidable _)=true:=@decide_eq_true _ (Classical.propDecidable _) (hiff.1 c1)
   rw[c1]at hfk
   rw[e,if_pos rfl]
   repeat' first|(first|refine kcc ?_|refine kjj kq16 ?_|apply kU);simp +decide only[go_sem,hlt,hw,hkT,hfk,hn,hb8,Dcm.row,Nte.enc,we]|apply kh<;>intro qa
   exact kM rfl (by simp +decide only[go_sem,ints,wJ,wt,wn]) (by simp +decide only[go_sem])
 ·intro hlt
  rw[wh]
  repeat' first|(first|refine kcc ?_|refine kjj kq16 ?_|apply kU);simp +decide only[go_sem,hlt,Dcm.row]|apply kh<;>intro qa
  refine qw 4 _ (DLe.own_ _ _ _) ?_
  apply kF;simp +decide only[go_sem]
  rfl
end Go.Proofs.YtaaodllggdjhiaaGreatDoor
namespace Go.Proofs.YtaaodllggdjhiaaGreatDoor
abbrev kpm22:List (Nat×Go.Dl.Mode):=[(0,.light),(1,.light),(2,.light),(3,.light),(4,.light),(5,.light),(6,.step),(7,.light)]
abbrev kq17:Nat->List (Nat×Go.Dl.Mode):=fun n=>match n with|7=>kpm22|_=>[]
end Go.Proofs.YtaaodllggdjhiaaGreatDoor
namespace Go.Proofs.YtaaodllggdjhiaaGreatDoor
open Go.Dl
attribute [local irreducible] DW DCalls ECalls qo wk IW
theorem qnI{d:Dcm}(W:WfD d)(seen:Int->Bool){k:Nat}{n:Nte}(h:(Z5 d seen)[k]? =some n):n∈d.notes:=(keptN_mem.1 (wl h)).mem
theorem qnH(d:Dcm)(seen:Int->Bool):(Z5 d seen).length<=d.notes.length:=by
 unfold Z5;exact wC _ _
theorem rView_D(d:Dcm)(W:WfD d)(sp:List Spn)(hl:d.notes.length<=10000)(ht:d.tiers.length<=10000)(hs:sp.length<=10000):DCalls pP 14 [.agg d.row,dv (.sl 2 (spns sp))] (.agg (qah d (qf9 d sp)).row):=by
 have qK:=kmax
 have hK:=rKept_D d W sp hl ht hs
 have hseen:=fun id=>qhX d W sp id hl ht hs
 generalize hgs:qf9 d sp=seen at*
 have hkm:=fun(k:Nat) (n:Nte) (h:(Z5 d seen)[k]? =some n)=>qnI W seen h
 have hkl:=qnH d seen
 have hv:qah d seen={ d with notes:=(Z5 d seen).map (vr seen) }:=rfl
 rw[hv]
 generalize Z5 d seen=L at*
 simp only[Dcm.row]at hK
 refine kd (N:=49) (rs:=[.cell 4 34]) Tryz.func14 ?_
 repeat' first|(first|refine kcc ?_|refine kjj kq17 ?_|refine kx hK ?_|apply kU);simp +decide only[go_sem,Dcm.row]|apply kh<;>intro qa
 refine qqH 5 6 50 7 [] (r:=[.c (li d.rc.id),.c (ls d.rc.name),.c (li d.rc.len),.c (li d.rc.day),.c (.sl 1 (ints d.rc.sp)),.c (.sl 4 (d.tiers.map Tir.enc)),.ex 7 []]) (by simp +decide only[go_sem]) (by rfl) ?_
 refine qj L (fun k=>kn 49 [(1,dv (.sl 2 (spns sp))),(2,.one (.bx 2 7 0 0)),(4,.one (.bx 4 7 0 0)),(5,.one (.bx 5 7 0 0)),(6,dv (.sl 1 (ints (L.map (·.id))))),(7,dv (li k))] (ml [(2,[d.row]),(4,[[.c (li 0),.c (ls ⟨#[]⟩),.c (li 0),.c (li 0),.ex 1 [],.ex 4 [],.ex 7 []]]),(5,[[.c (li d.rc.id),.c (ls d.rc.name),.c (li d.rc.len),.c (li d.rc.day),.c (.sl 1 (ints d.rc.sp)),.c (.sl 4 (d.tiers.map Tir.enc)),.own 50 7 (((L.take k).map (vr seen)).map Nte.enc)]])])) (by omega) (km (by simp +decide only[go_sem,Dcm.row,wg,wn])) ?_ ?_
 ·intro k n hn hk hm htk hlt hw
  have hnm:=hkm k n hn
  have hx:(ints (L.map (·.id)))[k]? =some [li n.id]:=by simp[hn]
  have hG:=vP d n.id (by omega)
  rw[W.get hnm]at hG
  have hS:=hseen n.id
  have hst:((L.take (k+1)).map (vr seen)).map Nte.enc=((L.take k).map (vr seen)).map Nte.enc++[(vr seen n).enc]:=by rw[htk];simp
  rw[hst]
  have hql:(((L.take k).map (vr seen)).map Nte.enc).length=k:=by simp;omega
  generalize ((L.take k).map (vr seen)).map Nte.enc=q at hql ⊢
  have hb8:((q.length+1)*64<=140737488355328)=True:=eq_true (by omega)
  simp only[Dcm.row,Nte.row]at hG hS
  repeat' first|(first|refine kcc ?_|apply kU);simp +decide only[go_sem,hlt,Dcm.row]|apply kh<;>intro qa
  refine vq (fun _:Unit=>kn 49 [(1,dv (.sl 2 (spns sp))),(2,.one (.bx 2 7 0 0)),(4,.one (.bx 4 7 0 0)),(5,.one (.bx 5 7 0 0)),(6,dv (.sl 1 (ints (L.map (·.id))))),(7,dv (li k)),(8,.one (.bx 8 7 0 0))] (ml [(2,[d.row]),(4,[[.c (li 0),.c (ls ⟨#[]⟩),.c (li 0),.c (li 0),.ex 1 [],.ex 4 [],.ex 7 []]]),(5,[[.c (li d.rc.id),.c (ls d.rc.name),.c (li d.rc.len),.c (li d.rc.day),.c (.sl 1 (ints d.rc.sp)),.c (.sl 4 (d.tiers.map Tir.enc)),.own 50 7 q]]),(8,[n.row])])) (fun _=>True) ?_ ?_
  ·apply Zh (id:=6) (N:=49) [] [[],[],[],[1,2],[3],[0,4],[5],[6],[6],[],[9,7,5,0,1,2,3,4,5,6,7,9],[8,10,0,1,2,3,4,5,6,7,8,9,10]] (.bl 1 (.bl 2 (.thr 0 (.two 3 (.two 4 (.two 5 (.bl 6 (.ex 7 (.ex 8 (.run [9,10,11] .leaf)))) 9 (.run [5,6] (.ex 7 (.ex 8 (.run [10,11] .leaf))))) 9 (.run [4,5,6] (.ex 7 (.ex 8 (.run [10,11] .leaf))))) 9 (.run [3,4,5,6] (.ex 7 (.ex 8 (.run [10,11] .leaf))))) 3 (.thr 0 (.two 4 (.two 5 (.bl 6 (.ex 7 (.ex 8 (.run [9,10,11] .leaf)))) 9 (.run [5,6] (.ex 7 (.ex 8 (.run [10,11] .leaf))))) 9 (.run [4,5,6] (.ex 7 (.ex 8 (.run [10,11] .leaf))))) 4 (.two 0 (.two 5 (.bl 6 (.ex 7 (.ex 8 (.run [9,10,11] .leaf)))) 9 (.run [5,6] (.ex 7 (.ex 8 (.run [10,11] .leaf))))) 9 (.run [0,5,6] (.ex 7 (.ex 8 (.run [10,11] .leaf))))) 9 (.dia 0 4 (.run [5,6] (.ex 7 (.ex 8 (.run [10,11] .leaf)))))) 9 (.two 0 (.run [3,4,5,6] (.ex 7 (.ex 8 (.run [10,11] .leaf)))) 3 (.dia 0 4 (.run [5,6] (.ex 7 (.ex 8 (.run [10,11] .leaf)))))))));kernel_rfl;rfl;kernel_rfl;kernel_rfl
   simp only[wt,wn]
   simp +decide only[go_sem,hx,w4,Dcm.row,Nte.row]
   (repeat'(first|apply And.intro|(refine kw hG ?_;simp +decide only[go_sem,w4])|(refine kO (hG) (kP rfl) ?_;simp +decide only[go_sem,hx,hn,w4,Dcm.row,Nte.row])))
   all_goals exact⟨(),kmm⟩
  rintro _ _
  cases c1:seen n.id
  ·rw[c1]at hS
   have hbl:(vr seen n).enc= [li n.id,li n.tier,li n.par,li n.fr,li n.tg,li n.rank,ls ⟨#[]⟩]:=by unfold vr;rw[c1];rfl
   rw[hbl]
   repeat' first|(first|refine kcc ?_|refine kjj kq17 ?_|refine kx hS ?_|apply kU);simp +decide only[go_sem,hw,hx,hb8,Dcm.row,Nte.row]|apply kh<;>intro qa
   exact kmm
  ·rw[c1]at hS
   have hbl:(vr seen n).enc= [li n.id,li n.tier,li n.par,li n.fr,li n.tg,li n.rank,ls n.txt]:=by unfold vr;rw[c1];rfl
   rw[hbl]
   repeat' first|(first|refine kcc ?_|refine kjj kq17 ?_|refine kx hS ?_|apply kU);simp +decide only[go_sem,hw,hx,hb8,Dcm.row,Nte.row]|apply kh<;>intro qa
   exact kmm
 ·intro hlt
  rw[wh]
  repeat' first|(first|refine kcc ?_|refine kjj kq17 ?_|apply kU);simp +decide only[go_sem,hlt]|apply kh<;>intro qa
  refine qdo 4 (by simp +decide only[go_sem];rfl) ?_
  apply kF;simp +decide only[go_sem]
end Go.Proofs.YtaaodllggdjhiaaGreatDoor
namespace Go.Proofs.YtaaodllggdjhiaaGreatDoor
abbrev kpm23:List (Nat×Go.Dl.Mode):=[(0,.light),(1,.light),(2,.light),(3,.light),(4,.light),(5,.light),(6,.light),(7,.light),(8,.light)]
abbrev kpm24:List (Nat×Go.Dl.Mode):=[(0,.light),(1,.light),(2,.light),(3,.light),(4,.light),(5,.light),(6,.light),(7,.light),(8,.light),(9,.light),(10,.light)]
abbrev kq18:Nat->List (Nat×Go.Dl.Mode):=fun n=>match n with|6=>kpm23|_=>[]
abbrev kq19:Nat->List (Nat×Go.Dl.Mode):=fun n=>match n with|9=>kpm24|14=>kpm24|_=>[]
end Go.Proofs.YtaaodllggdjhiaaGreatDoor
namespace Go.Proofs.YtaaodllggdjhiaaGreatDoor
open Go.Dl
attribute [local irreducible] DW DCalls ECalls qo wk IW
theorem qmO(xs:List Int)(hx:xs.length<=maxLen):DCalls pP 45 [dv (.sl 1 (ints xs)),dv (.sl 1 (ints xs))] (dv (lb true)):=by
 refine kd (N:=26) (rs:=[.tmp 4]) Tryz.func45 ?_
 have h0:(xs.length==xs.length)=true:=by simp
 repeat' first|(first|refine kcc ?_|refine kjj kq18 ?_|apply kU);simp only[go_sem]|apply kh<;>intro qa
 ·simp at qa
 refine qj xs (fun k=>kn 26 [(0,dv (.sl 1 (ints xs))),(1,dv (.sl 1 (ints xs))),(5,dv (li k))] qc) hx kl ?_ ?_
 ·intro k x hx hk hm htk hlt hw
  have hx':=qp hx
  repeat' first|(first|refine kcc ?_|refine kjj kq18 ?_|apply kU);simp only[go_sem,hlt,hw,hx']|apply kh<;>intro qa
  ·simp at qa
  exact kl
 ·intro hlt
  repeat' first|(first|refine kcc ?_|refine kjj kq18 ?_|apply kU|apply kF);simp only[go_sem,hlt]|apply kh<;>intro qa
theorem qpw(xs:List Int)(hx:xs.length<=maxLen):DCalls pP 17 [dv (.sl 1 (ints xs)),dv (.sl 1 (ints xs))] (dv (lb true)):=by
 refine kd (N:=26) (rs:=[.tmp 4]) Tryz.func17 ?_
 have h0:(xs.length==xs.length)=true:=by simp
 repeat' first|(first|refine kcc ?_|refine kjj kq18 ?_|apply kU);simp only[go_sem]|apply kh<;>intro qa
 ·simp at qa
 refine qj xs (fun k=>kn 26 [(0,dv (.sl 1 (ints xs))),(1,dv (.sl 1 (ints xs))),(5,dv (li k))] qc) hx kl ?_ ?_
 ·intro k x hx hk hm htk hlt hw
  have hx':=qp hx
  repeat' first|(first|refine kcc ?_|refine kjj kq18 ?_|apply kU);simp only[go_sem,hlt,hw,hx']|apply kh<;>intro qa
  ·simp at qa
  exact kl
 ·intro hlt
  repeat' first|(first|refine kcc ?_|refine kjj kq18 ?_|apply kU|apply kF);simp only[go_sem,hlt]|apply kh<;>intro qa
theorem qbH(a:ByteArray):(a==a)=true:=by simp[ZZ]
def rcZ:List T:=[.c (li 0),.c (ls ⟨#[]⟩),.c (li 0),.c (li 0),.ex 1 []]
theorem qmH(d:Dcm)(hl:d.notes.length<=10000)(ht:d.tiers.length<=10000)(hs:d.rc.sp.length<=10000):DCalls pP 16 [.agg d.row,.agg d.row] (dv (lb true)):=by
 have qK:=kmax
 have hI:=qmO d.rc.sp (by omega)
 refine kd (N:=99) (rs:=[.tmp 4]) Tryz.func16 ?_
 repeat' first|(first|refine kcc ?_|apply kU);simp +decide only[go_sem,Dcm.row]|apply kh<;>intro qa
 refine vq (fun _:Unit=>kn 99 [(2,.one (.bx 2 7 0 0)),(3,.one (.bx 3 7 0 0)),(5,.one (.bx 5 5 0 0)),(6,.one (.bx 6 5 0 0))] (ml [(2,[d.row]),(3,[d.row]),(5,[d.rc.row]),(6,[d.rc.row])])) (fun _=>True) ?_ ?_
 ·refine qod (id:=1) (N:=99) [] [[],[0],[],[2],[],[],[4,1,0,1,4,5],[5,3,6,0,1,2,3,4,5,6]] [0,2] [(5,1),(5,3),(5,4),(5,5),(7,3),(7,4),(7,5),(13,1),(13,4),(13,5),(21,1),(21,3),(21,5),(37,1),(37,3),(37,4),(15,4),(15,5),(23,3),(23,5),(39,3),(39,4),(29,1),(29,5),(45,1),(45,4),(53,1),(53,3),(31,5),(47,4),(55,3),(55,6),(61,1),(63,6),(119,3),(127,7)] [[7,13,21,37],[15,23,39,29,45,53],[31,47,55,61],[63,119],[127],[255]] (stQ 99 [(2,.one (.bx 2 7 0 0)),(3,.one (.bx 3 7 0 0)),(9,.one (.bx 2 7 0 0)),(11,.one (.bx 3 7 0 0))] [(2,0,10,.agg (d.rc.row)),(8,0,12,.agg (d.rc.row)),(16,0,5,.one (.bx 5 5 0 0)),(32,0,6,.one (.bx 6 5 0 0))] [(0,0,2,[d.row]),(0,0,3,[d.row]),(16,64,5,[rcZ]),(64,0,5,[d.rc.row]),(32,128,6,[rcZ]),(128,0,6,[d.rc.row])]) 255 (by kernel_rfl) rfl (by kernel_rfl) (by kernel_rfl) (fun m=>rfl) ?_ ?_ ?_
  ·simp +decide only[go_sem,stQ,vJ,yQ,yS,wH,wE,Dcm.row,Rcd.row,rcZ]
   exact kmm
  ·simp +decide only[go_sem,stQ,yQ,yS,wH,wE,Dcm.row,Rcd.row,rcZ]
   (repeat' apply And.intro)
   all_goals exact kmm
  ·simp +decide only[go_sem,stQ,yQ,yS,wH,wE]
   exact⟨(),km (by simp +decide only[go_sem,Dcm.row,Rcd.row])⟩
 rintro _ _
 repeat' first|(first|refine kcc ?_|refine kjj kq19 ?_|refine kx hI ?_|apply kU);simp +decide only[go_sem,Dcm.row,Rcd.row,beq_self_eq_true,qbH,bne_self_eq_false,wT]|apply kh<;>intro qa
 refine qj d.tiers (fun k=>kn 99 [(2,.one (.bx 2 7 0 0)),(3,.one (.bx 3 7 0 0)),(7,dv (li k))] (ml [(2,[d.row]),(3,[d.row])])) (by omega) (km (by simp +decide only[go_sem,Dcm.row])) ?_ ?_
 ·intro k t hk hm hkk htk hlt hw
  repeat' first|(first|refine kcc ?_|refine kjj kq19 ?_|apply kU);simp +decide only[go_sem,hlt,hw,hk,Dcm.row,Tir.enc,beq_self_eq_true,qbH,wT,Bool.and_self]|apply kh<;>intro qa
  exact kmm
 ·intro hlt
  repeat' first|(first|refine kcc ?_|refine kjj kq19 ?_|apply kU);simp +decide only[go_sem,hlt,Dcm.row]|apply kh<;>intro qa
  refine qj d.notes (fun k=>kn 99 [(2,.one (.bx 2 7 0 0)),(3,.one (.bx 3 7 0 0)),(8,dv (li k))] (ml [(2,[d.row]),(3,[d.row])])) (by omega) (km (by simp +decide only[go_sem,Dcm.row])) ?_ ?_
  ·intro k t hk hm hkk htk hlt hw
   repeat' first|(first|refine kcc ?_|refine kjj kq19 ?_|apply kU);simp +decide only[go_sem,hlt,hw,hk,Dcm.row,Nte.enc,beq_self_eq_true,qbH,wT,Bool.and_self]|apply kh<;>intro qa
   exact kmm
  ·intro hlt
   repeat' first|(first|refine kcc ?_|refine kjj kq19 ?_|apply kU|apply kF);simp +decide only[go_sem,hlt,Dcm.row]|apply kh<;>intro qa
end Go.Proofs.YtaaodllggdjhiaaGreatDoor
namespace Go.Proofs.YtaaodllggdjhiaaGreatDoor
abbrev kpm25:List (Nat×Go.Dl.Mode):=[(0,.light),(1,.light),(2,.light),(3,.light),(4,.light),(5,.light),(6,.light),(7,.light),(8,.light),(9,.light),(10,.light),(11,.light),(12,.light),(13,.light),(14,.light),(15,.light)]
abbrev kq20:Nat->List (Nat×Go.Dl.Mode):=fun n=>match n with|8=>kpm25|_=>[]
abbrev kq21:Nat->List (Nat×Go.Dl.Mode):=fun n=>match n with|14=>kpm25|_=>[]
abbrev kq22:Nat->List (Nat×Go.Dl.Mode):=fun n=>match n with|9=>kpm25|14=>kpm24|_=>[]
end Go.Proofs.YtaaodllggdjhiaaGreatDoor
namespace Go.Proofs.YtaaodllggdjhiaaGreatDoor
open Go.Dl
attribute [local irreducible] DW DCalls ECalls qo wk IW
theorem kzq(k:Nat)(hk:k<=100000000):(k=0/\decide ((0:Int)<(k:Int))=false)\/∃m,k=m+1/\decide ((0:Int)<(k:Int))=true/\IntKind.wrap .i64 ((k:Int) - 1)=(m:Int)/\(m:Int).toNat=m:=by
 cases k with
 | zero=>left;simp
 | succ m=>right;exact⟨m,rfl,by simp,by rw[wrap_i64 (by omega) (by omega)];omega,by simp⟩
theorem qmK(ps:List Pers)(hs: ∀p∈ps,p.name.size<=1048576):qo pP 59 [dv (.sl 3 (ps.map Pers.enc))] (fun r=>∃e:Int,r=dv (li e)):=by
 have qK:=kmax
 refine vt (N:=43) (rs:=[.tmp 2]) (by kernel_rfl) Tryz.func59 rfl rfl rfl (by simp) ?_
 cases c0:decide ((40:Int)<(ps.length:Int))
 rotate_left
 ·repeat' first|(first|refine kcc ?_|refine kjj kq20 ?_|apply kU);simp only[go_sem,c0]|apply kh<;>intro qa
  apply kF;simp only[go_sem]
  exact⟨_,rfl⟩
 have hl:ps.length<=40:=by simp at c0;omega
 repeat' first|(first|refine kcc ?_|refine kjj kq20 ?_|apply kU);simp only[go_sem,c0]|apply kh<;>intro qa
 refine qj ps (fun k=>kn 43 [(0,dv (.sl 3 (ps.map Pers.enc))),(8,dv (li ps.length)),(9,dv (li k))] qc) (by omega) kl ?_ ?_
 ·intro k p hk hm hkk htk hlt hw
  have hI:=qb9 p.id
  have hL:=qpN p.name (hs p (wl hk))
  have hkl:=(wd.1 hk).1
  cases c1:qlf p.id
  ·rw[c1]at hI
   repeat' first|(first|refine kcc ?_|refine kjj kq20 ?_|refine kx hI ?_|apply kU|apply kF);simp only[go_sem,hlt,hk,Pers.enc]|apply kh<;>intro qa
   exact⟨_,rfl⟩
  rw[c1]at hI
  cases c2:qbU p.name<;>rw[c2]at hL
  ·rcases kzq k (by omega)with⟨h0,z⟩|⟨m,hm1,z,hwm,hmt⟩
   ·repeat' first|(first|refine kcc ?_|refine kjj kq20 ?_|refine kx hI ?_|refine kx hL ?_|apply kU|apply kF);simp only[go_sem,hlt,hk,Pers.enc,z]|apply kh<;>intro qa
    exact⟨_,rfl⟩
   ·obtain⟨q,hq⟩: ∃q,ps[m]? =some q:=⟨_,wc (by omega)⟩
    repeat' first|(first|refine kcc ?_|refine kjj kq20 ?_|refine kx hI ?_|refine kx hL ?_|apply kU|apply kF);simp only[go_sem,hlt,hk,Pers.enc,z,hwm,hmt,hq]|apply kh<;>intro qa
    all_goals exact⟨_,rfl⟩
  ·rcases kzq k (by omega)with⟨h0,z⟩|⟨m,hm1,z,hwm,hmt⟩
   ·repeat' first|(first|refine kcc ?_|refine kjj kq20 ?_|refine kx hI ?_|refine kx hL ?_|apply kU|apply kF);simp only[go_sem,hlt,hw,hk,Pers.enc,z]|apply kh<;>intro qa
    exact kl
   ·obtain⟨q,hq⟩: ∃q,ps[m]? =some q:=⟨_,wc (by omega)⟩
    repeat' first|(first|refine kcc ?_|refine kjj kq20 ?_|refine kx hI ?_|refine kx hL ?_|apply kU|apply kF);simp only[go_sem,hlt,hw,hk,Pers.enc,z,hwm,hmt,hq]|apply kh<;>intro qa
    ·exact⟨_,rfl⟩
    ·exact kl
 ·intro hlt
  repeat' first|(first|refine kcc ?_|refine kjj kq20 ?_|apply kU|apply kF);simp only[go_sem,hlt]|apply kh<;>intro qa
  exact⟨_,rfl⟩
theorem qkR(ps:List Pers)(r:Rcd)(hp:ps.length<=1000000)(hn:r.name.size<=1048576)(hs:r.sp.length<=1048576):qo pP 120 [dv (.sl 3 (ps.map Pers.enc)),.agg r.row] (fun r=>∃e:Int,r=dv (li e)):=by
 have qK:=kmax
 have hI:=qb9 r.id
 have hN:=qcO r.name hn
 refine vt (N:=71) (rs:=[.tmp 4]) (by kernel_rfl) Tryz.func120 rfl rfl rfl (by simp) ?_
 cases c1:qlf r.id<;>rw[c1]at hI
 ·repeat' first|(first|refine kcc ?_|refine kjj kq21 ?_|refine kx hI ?_|apply kU|apply kF);simp only[go_sem,Rcd.row]|apply kh<;>intro qa|((first|apply kH|apply kI)<;>(intro qa;simp only[go_sem,qa,Rcd.row]))
  exact⟨_,rfl⟩
 repeat' first|(first|refine kcc ?_|refine kjj kq21 ?_|refine kx hI ?_|apply kU);simp only[go_sem,Rcd.row]|apply kh<;>intro qa|((first|apply kH|apply kI)<;>(intro qa;simp only[go_sem,qa,Rcd.row]))
 refine CallC.nd (caps:=[]) (hN) (by simp only[go_sem]) (kP (by simp only[go_sem])) ?_
 rintro _ ⟨b,rfl⟩
 cases b
 ·simp only[go_sem]
  repeat' first|(first|refine kcc ?_|refine kjj kq21 ?_|apply kU);simp only[go_sem]|apply kh<;>intro qa|((first|apply kH|apply kI)<;>(intro qa;simp only[go_sem,qa]))
  apply kF;simp only[go_sem]
  exact⟨_,rfl⟩
 simp only[go_sem]
 repeat' first|(first|refine kcc ?_|refine kjj kq21 ?_|apply kU);simp only[go_sem]|apply kh<;>intro qa|((first|apply kH|apply kI)<;>(intro qa;simp only[go_sem,qa]))
 iterate 5 (focus (apply kF;simp only[go_sem];exact⟨_,rfl⟩))
 refine qj r.sp (fun k=>kn 71 [(0,dv (.sl 3 (ps.map Pers.enc))),(3,.one (.bx 3 5 0 0)),(38,dv (li r.sp.length)),(39,dv (li k))] (ml [(3,[r.row])])) (by omega) (km (by simp only[go_sem,Rcd.row])) ?_ ?_
 ·intro k p hk hm hkk htk hlt hw
  have hP:=Qe ps p hp
  have hkl:=(wd.1 hk).1
  have hk':=qp hk
  generalize vH ps p=pp at hP
  obtain⟨pq,ok⟩:=pp
  simp only[Pers.row]at hP
  cases ok
  ·rcases kzq k (by omega)with⟨h0,z⟩|⟨m,hm1,z,hwm,hmt⟩
   ·repeat' first|(first|refine kcc ?_|refine kjj kq21 ?_|refine kx hP ?_|apply kU|apply kF);simp only[go_sem,hlt,hk',Rcd.row,z]|apply kh<;>intro qa|((first|apply kH|apply kI)<;>(intro qa;simp only[go_sem,qa,hlt,hw,hk,hk',Rcd.row,z]))
    exact⟨_,rfl⟩
   ·obtain⟨q,hq⟩: ∃q,r.sp[m]? =some q:=⟨_,wc (by omega)⟩
    have hq':=qp hq
    repeat' first|(first|refine kcc ?_|refine kjj kq21 ?_|refine kx hP ?_|apply kU|apply kF);simp only[go_sem,hlt,hk',Rcd.row,z,hwm,hmt,hq']|apply kh<;>intro qa|((first|apply kH|apply kI)<;>(intro qa;simp only[go_sem,qa,hlt,hw,hk,hk',Rcd.row,z,hwm,hmt,hq,hq']))
    all_goals exact⟨_,rfl⟩
  ·rcases kzq k (by omega)with⟨h0,z⟩|⟨m,hm1,z,hwm,hmt⟩
   ·repeat' first|(first|refine kcc ?_|refine kjj kq21 ?_|refine kx hP ?_|apply kU|apply kF);simp only[go_sem,hlt,hw,hk',Rcd.row,z]|apply kh<;>intro qa|((first|apply kH|apply kI)<;>(intro qa;simp only[go_sem,qa,hlt,hw,hk,hk',Rcd.row,z]))
    exact kmm
   ·obtain⟨q,hq⟩: ∃q,r.sp[m]? =some q:=⟨_,wc (by omega)⟩
    have hq':=qp hq
    repeat' first|(first|refine kcc ?_|refine kjj kq21 ?_|refine kx hP ?_|apply kU|apply kF);simp only[go_sem,hlt,hw,hk',Rcd.row,z,hwm,hmt,hq']|apply kh<;>intro qa|((first|apply kH|apply kI)<;>(intro qa;simp only[go_sem,qa,hlt,hw,hk,hk',Rcd.row,z,hwm,hmt,hq,hq']))
    ·exact⟨_,rfl⟩
    ·exact kmm
 ·intro hlt
  repeat' first|(first|refine kcc ?_|refine kjj kq21 ?_|apply kU|apply kF);simp only[go_sem,hlt]|apply kh<;>intro qa|((first|apply kH|apply kI)<;>(intro qa;simp only[go_sem,qa,hlt,we]))
  exact⟨_,rfl⟩
theorem rRecs_N(ps:List Pers)(rs:List Rcd)(hp:ps.length<=1000000)(hn: ∀r∈rs,r.name.size<=1048576)(hs: ∀r∈rs,r.sp.length<=1048576):qo pP 60 [dv (.sl 3 (ps.map Pers.enc)),dv (.sl 5 (rs.map Rcd.enc))] (fun r=>∃e:Int,r=dv (li e)):=by
 have qK:=kmax
 refine vt (N:=58) (rs:=[.tmp 4]) (by kernel_rfl) Tryz.func60 rfl rfl rfl (by simp) ?_
 cases c0:decide ((12:Int)<(rs.length:Int))
 rotate_left
 ·repeat' first|(first|refine kcc ?_|refine kjj kq22 ?_|apply kU);simp only[go_sem,c0]|apply kh<;>intro qa
  apply kF;simp only[go_sem]
  exact⟨_,rfl⟩
 have hl:rs.length<=12:=by simp at c0;omega
 repeat' first|(first|refine kcc ?_|refine kjj kq22 ?_|apply kU);simp only[go_sem,c0]|apply kh<;>intro qa
 refine qj rs (fun k=>kn 58 [(0,dv (.sl 3 (ps.map Pers.enc))),(1,dv (.sl 5 (rs.map Rcd.enc))),(12,dv (li rs.length)),(13,dv (li k))] qc) (by omega) kl ?_ ?_
 ·intro k p hk hm hkk htk hlt hw
  have hC:=qkR ps p hp (hn p (wl hk)) (hs p (wl hk))
  have hkl:=(wd.1 hk).1
  simp only[Rcd.row]at hC
  repeat' first|(first|refine kcc ?_|refine kjj kq22 ?_|apply kU);simp only[go_sem,hlt,hk,Rcd.enc]|apply kh<;>intro qa
  refine CallC.nd (caps:=[]) (hC) (by simp only[go_sem]) (kP (by simp only[go_sem])) ?_
  rintro _ ⟨e,rfl⟩
  simp only[go_sem]
  cases c1:e !=0
  rotate_left
  ·repeat' first|(first|refine kcc ?_|refine kjj kq22 ?_|apply kU);simp only[go_sem,c1]|apply kh<;>intro qa
   apply kF;simp only[go_sem]
   exact⟨_,rfl⟩
  rcases kzq k (by omega)with⟨h0,z⟩|⟨m,hm1,z,hwm,hmt⟩
  ·repeat' first|(first|refine kcc ?_|refine kjj kq22 ?_|apply kU);simp only[go_sem,c1,z]|apply kh<;>intro qa
   refine qj (List.range k) (fun i=>kn 58 [(0,dv (.sl 3 (ps.map Pers.enc))),(1,dv (.sl 5 (rs.map Rcd.enc))),(5,dv (li k)),(7,dv (li i)),(12,dv (li rs.length)),(13,dv (li k))] qc) (by simp;omega) kl ?_ ?_
   ·intro i _ hi him hii hti Qj hwi
    rw[ju]at Qj
    have hik:i<k:=by simpa using him
    obtain⟨q,hq⟩: ∃q,rs[i]? =some q:=⟨_,wc (by omega)⟩
    cases c3:q.name==p.name
    ·repeat' first|(first|refine kcc ?_|refine kjj kq22 ?_|apply kU|apply kF);simp only[go_sem,Qj,hwi,hk,hq,c3,Rcd.enc]|apply kh<;>intro qa
     exact kl
    ·repeat' first|(first|refine kcc ?_|refine kjj kq22 ?_|apply kU|apply kF);simp only[go_sem,Qj,hk,hq,c3,Rcd.enc]|apply kh<;>intro qa
     exact⟨_,rfl⟩
   ·intro Qj
    rw[ju]at Qj ⊢
    repeat' first|(first|refine kcc ?_|refine kjj kq22 ?_|apply kU|apply kF);simp only[go_sem,Qj,hw]|apply kh<;>intro qa
    exact kl
  ·obtain⟨q,hq⟩: ∃q,rs[m]? =some q:=⟨_,wc (by omega)⟩
   cases c2:decide (p.id<=q.id)
   rotate_left
   ·repeat' first|(first|refine kcc ?_|refine kjj kq22 ?_|apply kU|apply kF);simp only[go_sem,c1,c2,z,hwm,hmt,hq,hk,Rcd.enc]|apply kh<;>intro qa
    exact⟨_,rfl⟩
   repeat' first|(first|refine kcc ?_|refine kjj kq22 ?_|apply kU);simp only[go_sem,c1,c2,z,hwm,hmt,hq,hk,Rcd.enc]|apply kh<;>intro qa
   refine qj (List.range k) (fun i=>kn 58 [(0,dv (.sl 3 (ps.map Pers.enc))),(1,dv (.sl 5 (rs.map Rcd.enc))),(5,dv (li k)),(7,dv (li i)),(12,dv (li rs.length)),(13,dv (li k))] qc) (by simp;omega) kl ?_ ?_
   ·intro i _ hi him hii hti Qj hwi
    rw[ju]at Qj
    have hik:i<k:=by simpa using him
    obtain⟨q,hq⟩: ∃q,rs[i]? =some q:=⟨_,wc (by omega)⟩
    cases c3:q.name==p.name
    ·repeat' first|(first|refine kcc ?_|refine kjj kq22 ?_|apply kU|apply kF);simp only[go_sem,Qj,hwi,hk,hq,c3,Rcd.enc]|apply kh<;>intro qa
     exact kl
    ·repeat' first|(first|refine kcc ?_|refine kjj kq22 ?_|apply kU|apply kF);simp only[go_sem,Qj,hk,hq,c3,Rcd.enc]|apply kh<;>intro qa
     exact⟨_,rfl⟩
   ·intro Qj
    rw[ju]at Qj ⊢
    repeat' first|(first|refine kcc ?_|refine kjj kq22 ?_|apply kU|apply kF);simp only[go_sem,Qj,hw]|apply kh<;>intro qa
    exact kl
 ·intro hlt
  repeat' first|(first|refine kcc ?_|refine kjj kq22 ?_|apply kU|apply kF);simp only[go_sem,hlt]|apply kh<;>intro qa
  exact⟨_,rfl⟩
end Go.Proofs.YtaaodllggdjhiaaGreatDoor
namespace Go.Proofs.YtaaodllggdjhiaaGreatDoor
open Go.Dl S
attribute [local irreducible] DW DCalls ECalls qo wk IW
theorem up_len: ∀(ys xs:List Int),ys.Pairwise (· < ·)->(∀y∈ys,y∈xs)->ys.length<=xs.length
 | [],_,_,_=>by simp
 | y::ys,xs,hp,hm=>by
  have hy:=hm y (by simp)
  have h1:=up_len ys (xs.erase y) (wK.1 hp).2 fun z hz=>by
   have hlt:=(wK.1 hp).1 z hz
   exact(List.mem_erase_of_ne (by omega)).2 (hm z (by simp[hz]))
  rw[List.length_erase_of_mem hy]at h1
  have:=List.length_pos_of_mem hy
  simp only[wz]
  omega
structure GrpB(l:List Grp):Prop where
 len:l.length<=20
 subs: ∀g∈l,g.subs.length<=40
 ppl: ∀g∈l,g.people.length<=1000
theorem zg(l:List Grp)(id:Int):(∃(k:Nat) (g:Grp),l[k]? =some g/\idxF (fun g:Grp=>g.id==id) l=(k:Int)/\qr l id=(g,true))\/(idxF (fun g:Grp=>g.id==id) l= -1/\qr l id=(noGrp,false)):=by
 unfold qr
 cases h:l.find? (fun g=>g.id==id)with
 | none=>
  right
  refine⟨?_,rfl⟩
  rw[QC]
  intro y hy
  have:=List.find?_eq_none.1 h y hy
  simpa using this
 | some g=>
  left
  obtain⟨h1,l1,l2,e,h2⟩:=List.find?_eq_some_iff_append.1 h
  refine⟨l1.length,g,by rw[e];simp,?_,rfl⟩
  rw[QE (k:=l1.length) (x:=g) (by rw[e];simp) (by rw[e];simpa using h2) h1]
theorem qaX{l:List Grp}(hB:GrpB l):(l.flatMap (·.subs)).length<=800:=by
 have h: ∀l:List Grp,(∀g∈l,g.subs.length<=40)->(l.flatMap (·.subs)).length<=40*l.length
  | [],_=>by simp
  | g::l,h=>by
   have h1:=h g (by simp)
   have h2:=fun(l:List Grp) (h':(l.flatMap (·.subs)).length<=40*l.length)=>h'
   have ih:(l.flatMap (·.subs)).length<=40*l.length:=by
    clear h1 h2
    induction l with
    | nil=>simp
    | cons a l ih=>
     have h3:=h a (by simp)
     have:=ih fun x hx=>h x (by
      rcases ws.1 hx with hx|hx
      ·simp[hx]
      ·simp[hx])
     simp only[jr,wA,wz]
     omega
   simp only[jr,wA,wz]
   omega
 have:=h l hB.subs
 have:=hB.len
 omega
def rndK(l:List Grp)(o:List Int):Nat->List Int
 | 0=>o
 | k+1=>rndG l (rndK l o k)
theorem qgf(l:List Grp)(o:List Int): ∀k,rndK l (rndG l o) k=rndK l o (k+1)
 | 0=>rfl
 | k+1=>by rw[rndK,qgf l o k];rfl
theorem qmu(l:List Grp): ∀(n:Nat) (o:List Int),qge l n o=rndK l o n
 | 0,_=>rfl
 | n+1,o=>by rw[qge,qmu l n,qgf]
theorem qfm{l:List Grp}{x y:Int}(h:y∈(qr l x).1.subs):y∈l.flatMap (·.subs):=by
 rcases zg l x with⟨k,g,hk,_,e⟩|⟨_,e⟩
 ·rw[e]at h;exact jm.2 ⟨g,wl hk,h⟩
 ·rw[e]at h;cases h
theorem qcK(l:List Grp)(o:List Int)(hp:o.Pairwise (· < ·))(hm: ∀x∈o,x∈l.flatMap (·.subs)): ∀k,(rndK l o k).Pairwise (· < ·)/\∀x∈rndK l o k,x∈l.flatMap (·.subs)
 | 0=>⟨hp,hm⟩
 | k+1=>by
  refine⟨(qi _).1,fun x hx=>?_⟩
  rcases rndG_mem.1 hx with h|⟨y,_,h⟩
  ·exact(qcK l o hp hm k).2 x h
  ·exact qfm h
theorem qpE{l:List Grp}(hB:GrpB l)(o:List Int)(hp:o.Pairwise (· < ·))(hm: ∀x∈o,x∈l.flatMap (·.subs))(k:Nat):(rndK l o k).length<=800:=
 wD (up_len _ _ (qcK l o hp hm k).1 (qcK l o hp hm k).2) (qaX hB)
theorem ZB(l:List Grp)(id:Int)(hl:l.length<=1000000):DCalls pP 122 [dv (.sl 4 (l.map Grp.enc)),dv (li id)] (dv (li (idxF (fun g:Grp=>g.id==id) l))):=by
 have qK:=kmax
 refine kd (N:=20) (rs:=[.tmp 4]) Tryz.func122 ?_
 repeat first|apply kA|apply kB|(first|refine kcc ?_|apply kD|apply kE);simp only[go_sem]
 refine qaZ l (fun k (_:Unit)=>kn 20 [(0,dv (.sl 4 (l.map Grp.enc))),(1,dv (li id)),(7,dv (li l.length)),(8,dv (li k))] qc) (fun k _=>∀g∈l.take k,(g.id==id)=false) () (by omega) kl (by simp) ?_ ?_
 ·intro k p _ hp hk hm htk hlt hw hi
  repeat' first|(first|refine kcc ?_|apply kU|apply kF);simp only[go_sem,hlt,hw,hp,Grp.enc]|apply kh<;>intro qa
  ·rw[QE hp hi qa]
  ·exact⟨(),qv htk hi qa,kl⟩
 ·intro _ hlt hi
  rw[wh]at hi
  repeat' first|(first|refine kcc ?_|apply kU|apply kF);simp only[go_sem,hlt]|apply kh<;>intro qa
  rw[QC hi]
theorem qjp(l:List Grp)(id:Int)(hB:GrpB l):DCalls pP 123 [dv (.sl 4 (l.map Grp.enc)),dv (li id)] (dv (.sl 1 (ints (zN l id)))):=by
 have qK:=kmax
 have hln:=hB.len
 have hF:=ZB l id (by omega)
 have ho:usort (qr l id).1.subs=(usort (qr l id).1.subs):=rfl
 have hb:zN l id=rndK l (usort (qr l id).1.subs) l.length:=by unfold zN;rw[qmu]
 have hop:(usort (qr l id).1.subs).Pairwise (· < ·):=(qi _).1
 have hom: ∀x∈usort (qr l id).1.subs,x∈l.flatMap (·.subs):=fun x hx=>qfm ((qi _).2 x |>.1 hx)
 rw[hb]
 refine kd (N:=50) (rs:=[.tmp 4]) Tryz.func123 ?_
 (repeat'(first|apply kA|apply kB|((first|refine kcc ?_|apply kD|apply kE|refine kx hF ?_);simp only[go_sem])|(refine dw_condT ?_ ?_;focus (simp only[go_sem];done))|(refine dw_condF ?_ ?_;focus (simp only[go_sem];done))))
 refine vq (fun _:Unit=>kn 50 [(0,dv (.sl 4 (l.map Grp.enc))),(1,dv (li id)),(5,dv (.sl 1 (ints (usort (qr l id).1.subs))))] qc) (fun _=>True) ?_ ?_
 ·rcases zg l id with⟨k,g,hk,hi,e⟩|⟨hi,e⟩
  ·rw[hi]
   have hS:=qcN g.subs (by have:=hB.subs g (wl hk);omega)
   have hge:decide ((0:Int)<=(k:Int))=true:=by simp
   rw[e]
   (repeat'(first|apply kA|apply kB|((first|refine kcc ?_|apply kD|apply kE|refine kx hS ?_);simp only[go_sem,hk,Grp.enc,wB])|(apply kG;(simp only[go_sem];rfl);all_goals(intro qa;try exact kz qa))))
   exact⟨(),kl⟩
  ·rw[hi]
   rw[e]
   (repeat'(first|apply kA|apply kB|((first|refine kcc ?_|apply kD|apply kE);simp only[go_sem])|(apply kG;(simp only[go_sem];rfl);all_goals(intro qa;try exact kz qa))))
   have hz:usort noGrp.subs= []:=QJ
   rw[hz]
   exact⟨(),kl⟩
 rintro _ _
 generalize hgo:usort (qr l id).1.subs=o at*
 (repeat'(first|apply kA|apply kB|((first|refine kcc ?_|apply kD|apply kE);simp only[go_sem])|(apply kG;(simp only[go_sem];rfl);all_goals(intro qa;try exact kz qa))))
 refine qj l (fun k=>kn 50 [(0,dv (.sl 4 (l.map Grp.enc))),(5,dv (.sl 1 (ints (rndK l o k)))),(22,dv (li l.length)),(23,dv (li k))] qc) (by omega) (kL rfl (by simp only[go_sem,rndK]) (by simp[qc])) ?_ ?_
 ·intro k g0 hk hm hkk htk hlt hw
  have hO:=(qcK l o hop hom k).1
  have hOl:=qpE hB o hop hom k
  have QU:rndK l o (k+1)=usort (rndK l o k++(rndK l o k).flatMap fun x=>(qr l x).1.subs):=rfl
  rw[QU]
  generalize rndK l o k=O at*
  (repeat'(first|apply kA|apply kB|((first|refine kcc ?_|apply kD|apply kE);simp only[go_sem,hlt])|(apply kG;(simp only[go_sem];rfl);all_goals(intro qa;try exact kz qa))))
  refine qj O (fun i=>kn 50 [(0,dv (.sl 4 (l.map Grp.enc))),(5,dv (.sl 1 (ints O))),(7,dv (.sl 1 (ints (usort (O++(O.take i).flatMap fun x=>(qr l x).1.subs))))),(22,dv (li l.length)),(23,dv (li k)),(27,dv (li O.length)),(28,dv (li i))] qc) (by omega) (kL rfl (by simp only[go_sem,wg,List.flatMap_nil,wM,qo8 hO]) (by simp[qc])) ?_ ?_
  ·intro i x hx hxm hxk htx Qj hwi
   have hx':=qp hx
   have hFx:=ZB l x (by omega)
   have hul:=zq (O++(O.take i).flatMap fun x=>(qr l x).1.subs)
   have hup:(usort (O++(O.take i).flatMap fun x=>(qr l x).1.subs)).length<=100000:=by
    have h1:=up_len _ (O++l.flatMap (·.subs)) (qi (O++(O.take i).flatMap fun x=>(qr l x).1.subs)).1 fun y hy=>by
     rcases wo.1 ((qi _).2 y |>.1 hy)with h|h
     ·exact wo.2 (.inl h)
     ·obtain⟨z,_,hz⟩:=jm.1 h
      exact wo.2 (.inr (qfm hz))
    rw[wA]at h1
    have:=qaX hB
    omega
   rcases zg l x with⟨j,g,hj,hi,e⟩|⟨hi,e⟩
   ·rw[hi]at hFx
    have hU:=qeW (usort (O++(O.take i).flatMap fun x=>(qr l x).1.subs)) g.subs (by have:=hB.subs g (wl hj);omega)
    have hge:decide ((0:Int)<=(j:Int))=true:=by simp
    have hun:uniI (usort (O++(O.take i).flatMap fun x=>(qr l x).1.subs)) g.subs=usort (O++(O.take (i+1)).flatMap fun x=>(qr l x).1.subs):=qai fun z=>by
     rw[htx];simp[(qi _).2,e,or_assoc]
    rw[hun]at hU
    (repeat'(first|apply kA|apply kB|((first|refine kcc ?_|apply kD|apply kE|refine kx hFx ?_|refine kx hU ?_);simp only[go_sem,Qj,hwi,hx',hj,Grp.enc,wB])|(apply kG;(simp only[go_sem];rfl);all_goals(intro qa;try exact kz qa))))
    exact kl
   ·rw[hi]at hFx
    have hun:usort (O++(O.take (i+1)).flatMap fun x=>(qr l x).1.subs)=usort (O++(O.take i).flatMap fun x=>(qr l x).1.subs):=by rw[htx];simp[e,noGrp]
    rw[hun]
    (repeat'(first|apply kA|apply kB|((first|refine kcc ?_|apply kD|apply kE|refine kx hFx ?_);simp only[go_sem,Qj,hwi,hx'])|(apply kG;(simp only[go_sem];rfl);all_goals(intro qa;try exact kz qa))))
    exact kl
  ·intro Qj
   rw[wh]
   (repeat'(first|apply kA|apply kB|((first|refine kcc ?_|apply kD|apply kE);simp only[go_sem,Qj,hw])|(apply kG;(simp only[go_sem];rfl);all_goals(intro qa;try exact kz qa))))
   exact kl
 ·intro hlt
  (repeat'(first|apply kA|apply kB|((first|refine kcc ?_|apply kD|apply kE|apply kF);simp only[go_sem,hlt])|(apply kG;(simp only[go_sem];rfl);all_goals(intro qa;try exact kz qa))))
end Go.Proofs.YtaaodllggdjhiaaGreatDoor
namespace Go.Proofs.YtaaodllggdjhiaaGreatDoor
abbrev kpm26:List (Nat×Go.Dl.Mode):=[(0,.light),(1,.light),(2,.light),(3,.light),(4,.light),(5,.light),(6,.light),(7,.light),(8,.step)]
abbrev kq23:Nat->List (Nat×Go.Dl.Mode):=fun n=>match n with|12=>kpm26|_=>[]
end Go.Proofs.YtaaodllggdjhiaaGreatDoor
namespace Go.Proofs.YtaaodllggdjhiaaGreatDoor
open Go.Dl S
attribute [local irreducible] DW DCalls ECalls qo wk IW
theorem zz{α β:Type}(f:α->List β)(c:Nat): ∀(L:List α),(∀x∈L,(f x).length<=c)->(L.flatMap f).length<=L.length*c
 | [],_=>by simp
 | a::L,h=>by
  have h1:=h a (by simp)
  have h2:=zz f c L fun x hx=>h x (by simp[hx])
  simp only[jr,wA,wz,Nat.succ_mul]
  omega
theorem qbz{l:List Grp}(hB:GrpB l)(x:Int):(qr l x).1.people.length<=1000:=by
 rcases zg l x with⟨j,g,hj,_,e⟩|⟨_,e⟩
 ·rw[e];exact hB.ppl g (wl hj)
 ·rw[e];simp[noGrp]
theorem qco{l:List Grp}(id:Int):(zN l id).Pairwise (· < ·)/\∀x∈zN l id,x∈l.flatMap (·.subs):=by
 unfold zN;rw[qmu]
 exact qcK l _ (qi _).1 (fun x hx=>qfm ((qi _).2 x |>.1 hx)) _
theorem qkF(l:List Grp)(id:Int)(hB:GrpB l):DCalls pP 154 [dv (.sl 4 (l.map Grp.enc)),dv (li id)] (dv (.sl 1 (ints (vx l id)))):=by
 have qK:=kmax
 have hln:=hB.len
 have hF:=ZB l id (by omega)
 have hW:=qjp l id hB
 obtain⟨hbp,hbm⟩:=qco (l:=l) id
 have hbl:=up_len _ _ hbp hbm
 have hfl:=qaX hB
 have hP:=qmQ (zN l id) id hbp (by omega)
 have hX:=(QO id hbp).1
 have hXm:=(QO id hbp).2
 unfold vx
 rcases zg l id with⟨k,g,hk,hi,e⟩|⟨hi,e⟩
 rotate_left
 ·rw[hi]at hF
  rw[e]
  refine kd (N:=40) (rs:=[.tmp 4]) Tryz.func154 ?_
  repeat' first|(first|refine kcc ?_|refine kx hF ?_|apply kU);simp +decide only[go_sem]|apply kh<;>intro qa
  refine qw 4 (dv (.sl 1 [])) (by simp +decide only[go_sem]) ?_
  apply kF;simp +decide only[go_sem]
  all_goals rfl
 rw[hi]at hF
 rw[e]
 have hXl:(putI (zN l id) id).length<=801:=by
  have:=up_len _ (l.flatMap (·.subs)++[id]) hX fun y hy=>by
   rcases(hXm y).1 hy with h|h
   ·exact wo.2 (.inl (hbm y h))
   ·simp[h]
  rw[wA]at this
  simp only[wz,wR]at this
  omega
 rw[if_neg (by simp)]
 generalize putI (zN l id) id=X at*
 have hlt0:decide ((k:Int)<0)=false:=by simp
 refine kd (N:=40) (rs:=[.tmp 4]) Tryz.func154 ?_
 repeat' first|(first|refine kcc ?_|refine kx hF ?_|refine kx hW ?_|refine kx hP ?_|apply kU);simp +decide only[go_sem,hlt0]|apply kh<;>intro qa
 refine qj X (fun i=>kn 40 [(0,dv (.sl 4 (l.map Grp.enc))),(5,dv (.sl 1 (ints X))),(6,dv (.sl 1 (ints (usort ((X.take i).flatMap fun x=>(qr l x).1.people))))),(19,dv (li X.length)),(20,dv (li i))] qc) (by omega) (kL rfl (by simp +decide only[go_sem,wg,List.flatMap_nil,QJ]) (by simp[qc])) ?_ ?_
 ·intro i x hx hxm hxk htx Qj hwi
  have hx':=qp hx
  have hFx:=ZB l x (by omega)
  have hup:(usort ((X.take i).flatMap fun x=>(qr l x).1.people)).length<=801000:=by
   have h1:=zq ((X.take i).flatMap fun x=>(qr l x).1.people)
   have h2:=zz (fun x=>(qr l x).1.people) 1000 (X.take i) fun x _=>qbz hB x
   have h3:(X.take i).length<=X.length:=by rw[wx];omega
   omega
  rcases zg l x with⟨j,g,hj,hi,e⟩|⟨hi,e⟩
  ·rw[hi]at hFx
   have hU:=qeW (usort ((X.take i).flatMap fun x=>(qr l x).1.people)) g.people (by have:=hB.ppl g (wl hj);omega)
   have hge:decide ((0:Int)<=(j:Int))=true:=by simp
   have hun:uniI (usort ((X.take i).flatMap fun x=>(qr l x).1.people)) g.people=usort ((X.take (i+1)).flatMap fun x=>(qr l x).1.people):=qai fun z=>by
    rw[htx];simp[(qi _).2,e]
   rw[hun]at hU
   repeat' first|(first|refine kcc ?_|refine kx hFx ?_|refine kx hU ?_|apply kU);simp +decide only[go_sem,Qj,hwi,hx',hj,Grp.enc,wB]|apply kh<;>intro qa
   exact kl
  ·rw[hi]at hFx
   have hun:usort ((X.take (i+1)).flatMap fun x=>(qr l x).1.people)=usort ((X.take i).flatMap fun x=>(qr l x).1.people):=by rw[htx];simp[e,noGrp]
   rw[hun]
   repeat' first|(first|refine kcc ?_|refine kx hFx ?_|apply kU);simp +decide only[go_sem,Qj,hwi,hx']|apply kh<;>intro qa
   exact kl
 ·intro Qj
  rw[wh]
  repeat' first|(first|refine kcc ?_|apply kU|apply kF);simp +decide only[go_sem,Qj]|apply kh<;>intro qa
theorem rIn42_D(l:List Grp)(id p:Int)(hB:GrpB l):DCalls pP 97 [dv (.sl 4 (l.map Grp.enc)),dv (li id),dv (li p)] (dv (lb (inL (vx l id) p))):=by
 have qK:=kmax
 have hM:=qkF l id hB
 have hl:(vx l id).length<=9000000:=by
  unfold vx
  split
  ·simp
  ·have h1:=zq ((putI (zN l id) id).flatMap fun x=>(qr l x).1.people)
   have h2:=zz (fun x=>(qr l x).1.people) 1000 (putI (zN l id) id) fun x _=>qbz hB x
   obtain⟨hbp,hbm⟩:=qco (l:=l) id
   have:=up_len _ (l.flatMap (·.subs)++[id]) (QO id hbp).1 fun y hy=>by
    rcases((QO id hbp).2 y).1 hy with h|h
    ·exact wo.2 (.inl (hbm y h))
    ·simp[h]
   rw[wA]at this
   simp only[wz,wR]at this
   have hfl:=qaX hB
   omega
 have hH:=ZA (vx l id) p (by omega)
 refine kd (N:=12) (rs:=[.tmp 6]) Tryz.func97 ?_
 repeat' first|(first|refine kcc ?_|refine kx hM ?_|refine kx hH ?_|apply kU|apply kF);simp only[go_sem]|apply kh<;>intro qa
 rfl
theorem qpM(ps:List Pers)(l:List Grp)(r:Rle)(p day:Int)(hp:ps.length<=1000000)(hB:GrpB l)(hr:r.grps.length<=1048576):DCalls pP 43 [dv (.sl 3 (ps.map Pers.enc)),dv (.sl 4 (l.map Grp.enc)),.agg [.c (li r.lvl),.c (.sl 1 (ints r.grps)),.c (li r.til)],.agg [.c (li p),.c (li day)]] (dv (lb (mayR ⟨ps,l,[],[]⟩ r p day))):=by
 have qK:=kmax
 have hP:=Qe ps p hp
 simp only[Pers.row]at hP
 unfold mayR
 refine kd (N:=54) (rs:=[.tmp 8]) Tryz.func43 ?_
 by_cases h1:day<r.til
 ·have h1':decide (day<r.til)=true:=by simpa using h1
  repeat' first|(first|refine kcc ?_|refine kjj kq23 ?_|apply kU|apply kF);simp only[go_sem,h1']|apply kh<;>intro qa
  rw[if_pos h1]
 have h1':decide (day<r.til)=false:=by simpa using h1
 rw[if_neg h1]
 by_cases h2:r.lvl=0
 ·have h2':(r.lvl==0)=true:=by simpa using h2
  repeat' first|(first|refine kcc ?_|refine kjj kq23 ?_|apply kU|apply kF);simp only[go_sem,h1',h2']|apply kh<;>intro qa
  rw[if_pos h2]
 have h2':(r.lvl==0)=false:=by simpa using h2
 rw[if_neg h2]
 by_cases h3:r.lvl=1
 ·have h3':(r.lvl==1)=true:=by simpa using h3
  rw[if_pos h3]
  unfold memE
  generalize vH ps p=pp at*
  obtain⟨q,ok⟩:=pp
  cases ok
  ·repeat' first|(first|refine kcc ?_|refine kjj kq23 ?_|refine kx hP ?_|apply kU|apply kF);simp only[go_sem,h1',h2',h3']|apply kh<;>intro qa
  ·repeat' first|(first|refine kcc ?_|refine kjj kq23 ?_|refine kx hP ?_|apply kU|apply kF);simp only[go_sem,h1',h2',h3']|apply kh<;>intro qa
 have h3':(r.lvl==1)=false:=by simpa using h3
 rw[if_neg h3]
 by_cases h4:r.lvl=2
 rotate_left
 ·have h4':(r.lvl==2)=false:=by simpa using h4
  rw[if_neg h4]
  repeat' first|(first|refine kcc ?_|refine kjj kq23 ?_|apply kU|apply kF);simp only[go_sem,h1',h2',h3',h4']|apply kh<;>intro qa
 have h4':(r.lvl==2)=true:=by simpa using h4
 rw[if_pos h4]
 repeat' first|(first|refine kcc ?_|refine kjj kq23 ?_|apply kU);simp only[go_sem,h1',h2',h3',h4']|apply kh<;>intro qa
 refine qC r.grps (fun k=>kn 54 [(1,dv (.sl 4 (l.map Grp.enc))),(6,.one (.bx 6 3 0 0)),(7,.one (.bx 7 2 0 0)),(11,dv (li k))] (ml [(6,[[.c (li r.lvl),.c (.sl 1 (ints r.grps)),.c (li r.til)]]),(7,[[.c (li p),.c (li day)]])])) (fun k=>∀g∈r.grps.take k,inL (vx l g) p=false) (by omega) (kmm) (by simp) ?_ ?_
 ·intro k g hk hm hkk htk hlt hw hi
  have hk':=qp hk
  have hI:=rIn42_D l g p hB
  cases c:inL (vx l g) p<;>rw[c]at hI
  ·repeat' first|(first|refine kcc ?_|refine kjj kq23 ?_|refine kx hI ?_|apply kU);simp only[go_sem,hlt,hw,hk']|apply kh<;>intro qa
   refine⟨fun x hx=>?_,kmm⟩
   rw[htk]at hx
   rcases wo.1 hx with hx|hx
   ·exact hi x hx
   ·simp at hx;rw[hx];exact c
  ·repeat' first|(first|refine kcc ?_|refine kjj kq23 ?_|refine kx hI ?_|apply kU|apply kF);simp only[go_sem,hlt,hk']|apply kh<;>intro qa
   have:r.grps.any (fun g=>inL (vx l g) p)=true:=yo.2 ⟨g,wl hk,c⟩
   rw[this]
 ·intro hlt hi
  rw[wh]at hi
  repeat' first|(first|refine kcc ?_|refine kjj kq23 ?_|apply kU|apply kF);simp only[go_sem,hlt]|apply kh<;>intro qa
  have:r.grps.any (fun g=>inL (vx l g) p)=false:=jb.2 fun g hg=>by rw[hi g hg];simp
  rw[this]
end Go.Proofs.YtaaodllggdjhiaaGreatDoor
namespace Go.Proofs.YtaaodllggdjhiaaGreatDoor
abbrev kq24:Nat->List (Nat×Go.Dl.Mode):=fun n=>match n with|4=>kpm1|_=>[]
abbrev kq25:Nat->List (Nat×Go.Dl.Mode):=fun n=>match n with|10=>kpm25|_=>[]
abbrev kq26:Nat->List (Nat×Go.Dl.Mode):=fun n=>match n with|4=>kpm15|_=>[]
end Go.Proofs.YtaaodllggdjhiaaGreatDoor
namespace Go.Proofs.YtaaodllggdjhiaaGreatDoor
open Go.Dl S
attribute [local irreducible] DW DCalls ECalls qo wk IW
theorem qfR: ∀(xs:List Int),(∀(j:Nat) (a b:Int),xs[j]? =some a->xs[j+1]? =some b->a<b)->xs.Pairwise (· < ·)
 | [],_=>.nil
 | [a],_=>List.pairwise_singleton _ _
 | a::b::l,h=>by
  have ih:=qfR (b::l) fun j x y hx hy=>h (j+1) x y (by simpa using hx) (by simpa using hy)
  have hab:=h 0 a b (by simp) (by simp)
  refine wK.2 ⟨fun y hy=>?_,ih⟩
  rcases ws.1 hy with hy|hy
  ·rw[hy];exact hab
  ·have:=(wK.1 ih).1 y hy
   omega
theorem rUp_N(xs:List Int)(hl:xs.length<=100000000):qo pP 162 [dv (.sl 1 (ints xs))] (fun r=>∃b:Bool,r=dv (lb b)/\(b=true->xs.Pairwise (· < ·))):=by
 have qK:=kmax
 refine vt (N:=20) (rs:=[.tmp 2]) (by kernel_rfl) Tryz.func162 rfl rfl rfl (by simp) ?_
 repeat' first|(first|refine kcc ?_|refine kjj kq24 ?_|apply kU);simp only[go_sem]|apply kh<;>intro qa
 refine qk (fun m:Nat=>kn 20 [(0,dv (.sl 1 (ints xs))),(3,dv (li m))] qc) (fun m=>1<=m/\m<=1000000000/\∀(j:Nat) (a b:Int),j+1<m->xs[j]? =some a->xs[j+1]? =some b->a<b) (fun m=>1000000000 - m) 1 kl ⟨by omega,by omega,fun j a b h=>by omega⟩ ?_
 rintro m ⟨hm1,hm2,hc⟩
 cases t1:decide ((m:Int)<(xs.length:Int))
 ·repeat' first|(first|refine kcc ?_|refine kjj kq24 ?_|apply kU|apply kF);simp only[go_sem,t1]|apply kh<;>intro qa
  refine⟨true,rfl,fun _=>qfR xs fun j a b ha hb=>hc j a b ?_ ha hb⟩
  have:=(wd.1 hb).1
  simp at t1
  omega
 have hml:m<xs.length:=by simpa using t1
 have hx:=qp (wc hml)
 have hy:=qp (wc (show m - 1<xs.length by omega))
 have hw1:IntKind.wrap .i64 ((m:Int) - 1)=((m - 1:Nat):Int):=by rw[wrap_i64 (by omega) (by omega)];omega
 have hw2:=qt m (by omega)
 cases t2:decide (xs[m]<=xs[m - 1])
 ·have hlt:xs[m - 1]<xs[m]:=by simp at t2;omega
  repeat' first|(first|refine kcc ?_|refine kjj kq24 ?_|apply kU);simp only[go_sem,t1,t2,hw1,hw2,hx,hy]|apply kh<;>intro qa
  refine⟨m+1,⟨by omega,by omega,fun j a b hj ha hb=>?_⟩,by omega,kl⟩
  rcases yu.1 hj with h|h
  ·exact hc j a b h ha hb
  ·subst h
   rw[wc (by omega)]at ha hb
   injection ha with ha;injection hb with hb
   rw[<-ha,<-hb]
   simpa using hlt
 ·repeat' first|(first|refine kcc ?_|refine kjj kq24 ?_|apply kU|apply kF);simp only[go_sem,t1,t2,hw1,hx,hy]|apply kh<;>intro qa
  exact⟨false,rfl,fun h=>by cases h⟩
theorem qcP(l:List Grp)(id:Int)(hl:l.length<=1000000):qo pP 163 [dv (.sl 4 (l.map Grp.enc)),dv (li id)] (fun r=>∃b:Bool,r=dv (lb b)):=by
 have qK:=kmax
 refine vt (N:=19) (rs:=[.tmp 4]) (by kernel_rfl) Tryz.func163 rfl rfl rfl (by simp) ?_
 repeat' first|(first|refine kcc ?_|apply kU);simp only[go_sem]|apply kh<;>intro qa
 refine qj l (fun k=>kn 19 [(0,dv (.sl 4 (l.map Grp.enc))),(1,dv (li id)),(5,dv (li k))] qc) (by omega) kl ?_ ?_
 ·intro k g hk hm hkk htk hlt hw
  repeat' first|(first|refine kcc ?_|apply kU|apply kF);simp only[go_sem,hlt,hw,hk,Grp.enc]|apply kh<;>intro qa
  ·exact⟨_,rfl⟩
  ·exact kl
 ·intro hlt
  repeat' first|(first|refine kcc ?_|apply kU|apply kF);simp only[go_sem,hlt]|apply kh<;>intro qa
  exact⟨_,rfl⟩
theorem qkL(l:List Grp)(r:Rle)(hl:l.length<=1000000)(hr:r.grps.length<=1048576):qo pP 125 [dv (.sl 4 (l.map Grp.enc)),.agg [.c (li r.lvl),.c (.sl 1 (ints r.grps)),.c (li r.til)]] (fun x=>∃e:Int,x=dv (li e)/\(e=0->0<=r.lvl/\r.lvl<=3)):=by
 have qK:=kmax
 refine vt (N:=71) (rs:=[.tmp 4]) (by kernel_rfl) Tryz.func125 rfl rfl rfl (by simp) ?_
 cases c1:decide (r.lvl<0)
 rotate_left
 ·repeat' first|(first|refine kcc ?_|refine kjj kq25 ?_|apply kU|apply kF);simp only[go_sem,c1]|apply kh<;>intro qa|((first|apply kH|apply kI)<;>(intro qa;simp only[go_sem,qa,c1]))
  exact⟨_,rfl,fun h=>absurd h (by decide)⟩
 cases c2:decide (3<r.lvl)
 rotate_left
 ·repeat' first|(first|refine kcc ?_|refine kjj kq25 ?_|apply kU|apply kF);simp only[go_sem,c1,c2]|apply kh<;>intro qa|((first|apply kH|apply kI)<;>(intro qa;simp only[go_sem,qa,c1,c2]))
  exact⟨_,rfl,fun h=>absurd h (by decide)⟩
 have hL:0<=r.lvl/\r.lvl<=3:=by simp at c1 c2;omega
 by_cases h3:r.grps.length=0
 ·have c3:decide ((0:Int)<(r.grps.length:Int))=false:=decide_eq_false (by omega)
  have c4:((r.grps.length:Int)==0)=true:=by rw[h3];rfl
  cases c5:r.lvl==2
  rotate_left
  ·repeat' first|(first|refine kcc ?_|refine kjj kq25 ?_|apply kU|apply kF);simp only[go_sem,c1,c2,c3,c4,c5,we]|apply kh<;>intro qa|((first|apply kH|apply kI)<;>(intro qa;simp only[go_sem,qa,c1,c2,c3,c4,c5,we]))
   exact⟨_,rfl,fun _=>hL⟩
  repeat' first|(first|refine kcc ?_|refine kjj kq25 ?_|apply kU);simp only[go_sem,c1,c2,c3,c4,c5,we]|apply kh<;>intro qa|((first|apply kH|apply kI)<;>(intro qa;simp only[go_sem,qa,c1,c2,c3,c4,c5,we]))
  refine qj r.grps (fun k=>kn 71 [(0,dv (.sl 4 (l.map Grp.enc))),(3,.one (.bx 3 3 0 0)),(5,dv (li k))] (ml [(3,[[.c (li r.lvl),.c (.sl 1 (ints r.grps)),.c (li r.til)]])])) (by omega) (kmm) ?_ ?_
  ·intro k g hk hm hkk htk hlt hw
   have hk':=qp hk
   have hE:=qcP l g hl
   rcases kzq k (by omega)with⟨h0,z⟩|⟨m,hm1,z,hwm,hmt⟩
   ·repeat' first|(first|refine kcc ?_|refine kjj kq25 ?_|apply kU);simp only[go_sem,hlt,hk',z]|apply kh<;>intro qa|((first|apply kH|apply kI)<;>(intro qa;simp only[go_sem,qa,hlt,hk',z]))
    refine CallC.nd (caps:=[]) (hE) (by simp only[go_sem]) (kP (by simp only[go_sem])) ?_
    rintro _ ⟨b,rfl⟩
    cases b
    ·simp only[go_sem]
     repeat' first|(first|refine kcc ?_|refine kjj kq25 ?_|apply kU|apply kF);simp only[go_sem]|apply kh<;>intro qa|((first|apply kH|apply kI)<;>(intro qa;simp only[go_sem,qa,hw]))
     exact⟨_,rfl,fun _=>hL⟩
    ·simp only[go_sem]
     repeat' first|(first|refine kcc ?_|refine kjj kq25 ?_|apply kU);simp only[go_sem,hw]|apply kh<;>intro qa|((first|apply kH|apply kI)<;>(intro qa;simp only[go_sem,qa,hw]))
     exact kmm
   ·obtain⟨q,hq⟩: ∃q,r.grps[m]? =some q:=⟨_,wc (by omega)⟩
    have hq':=qp hq
    cases c9:decide (g<=q)
    rotate_left
    ·repeat' first|(first|refine kcc ?_|refine kjj kq25 ?_|apply kU|apply kF);simp only[go_sem,hlt,hk',z,hwm,hmt,hq',c9]|apply kh<;>intro qa|((first|apply kH|apply kI)<;>(intro qa;simp only[go_sem,qa,hlt,hk',z,hwm,hmt,hq',c9]))
     exact⟨_,rfl,fun _=>hL⟩
    repeat' first|(first|refine kcc ?_|refine kjj kq25 ?_|apply kU);simp only[go_sem,hlt,hk',z,hwm,hmt,hq',c9]|apply kh<;>intro qa|((first|apply kH|apply kI)<;>(intro qa;simp only[go_sem,qa,hlt,hk',z,hwm,hmt,hq',c9]))
    refine CallC.nd (caps:=[]) (hE) (by simp only[go_sem]) (kP (by simp only[go_sem])) ?_
    rintro _ ⟨b,rfl⟩
    cases b
    ·simp only[go_sem]
     repeat' first|(first|refine kcc ?_|refine kjj kq25 ?_|apply kU|apply kF);simp only[go_sem]|apply kh<;>intro qa|((first|apply kH|apply kI)<;>(intro qa;simp only[go_sem,qa,hw]))
     exact⟨_,rfl,fun _=>hL⟩
    ·simp only[go_sem]
     repeat' first|(first|refine kcc ?_|refine kjj kq25 ?_|apply kU);simp only[go_sem,hw]|apply kh<;>intro qa|((first|apply kH|apply kI)<;>(intro qa;simp only[go_sem,qa,hw]))
     exact kmm
  ·intro hlt
   repeat' first|(first|refine kcc ?_|refine kjj kq25 ?_|apply kU|apply kF);simp only[go_sem,hlt]|apply kh<;>intro qa|((first|apply kH|apply kI)<;>(intro qa;simp only[go_sem,qa]))
   all_goals exact⟨_,rfl,fun _=>hL⟩
 have c3:decide ((0:Int)<(r.grps.length:Int))=true:=decide_eq_true (by omega)
 have c4:((r.grps.length:Int)==0)=false:=by rw[beq_eq_false_iff_ne];omega
 cases c5:r.lvl !=2
 rotate_left
 ·repeat' first|(first|refine kcc ?_|refine kjj kq25 ?_|apply kU|apply kF);simp only[go_sem,c1,c2,c3,c5,we]|apply kh<;>intro qa|((first|apply kH|apply kI)<;>(intro qa;simp only[go_sem,qa,c1,c2,c3,c4,c5,we]))
  exact⟨_,rfl,fun _=>hL⟩
 repeat' first|(first|refine kcc ?_|refine kjj kq25 ?_|apply kU);simp only[go_sem,c1,c2,c3,c4,c5,we]|apply kh<;>intro qa|((first|apply kH|apply kI)<;>(intro qa;simp only[go_sem,qa,c1,c2,c3,c4,c5,we]))
 refine qj r.grps (fun k=>kn 71 [(0,dv (.sl 4 (l.map Grp.enc))),(3,.one (.bx 3 3 0 0)),(5,dv (li k))] (ml [(3,[[.c (li r.lvl),.c (.sl 1 (ints r.grps)),.c (li r.til)]])])) (by omega) (kmm) ?_ ?_
 ·intro k g hk hm hkk htk hlt hw
  have hk':=qp hk
  have hE:=qcP l g hl
  rcases kzq k (by omega)with⟨h0,z⟩|⟨m,hm1,z,hwm,hmt⟩
  ·repeat' first|(first|refine kcc ?_|refine kjj kq25 ?_|apply kU);simp only[go_sem,hlt,hk',z]|apply kh<;>intro qa|((first|apply kH|apply kI)<;>(intro qa;simp only[go_sem,qa,hlt,hk',z]))
   refine CallC.nd (caps:=[]) (hE) (by simp only[go_sem]) (kP (by simp only[go_sem])) ?_
   rintro _ ⟨b,rfl⟩
   cases b
   ·simp only[go_sem]
    repeat' first|(first|refine kcc ?_|refine kjj kq25 ?_|apply kU|apply kF);simp only[go_sem]|apply kh<;>intro qa|((first|apply kH|apply kI)<;>(intro qa;simp only[go_sem,qa,hw]))
    exact⟨_,rfl,fun _=>hL⟩
   ·simp only[go_sem]
    repeat' first|(first|refine kcc ?_|refine kjj kq25 ?_|apply kU);simp only[go_sem,hw]|apply kh<;>intro qa|((first|apply kH|apply kI)<;>(intro qa;simp only[go_sem,qa,hw]))
    exact kmm
  ·obtain⟨q,hq⟩: ∃q,r.grps[m]? =some q:=⟨_,wc (by omega)⟩
   have hq':=qp hq
   cases c9:decide (g<=q)
   rotate_left
   ·repeat' first|(first|refine kcc ?_|refine kjj kq25 ?_|apply kU|apply kF);simp only[go_sem,hlt,hk',z,hwm,hmt,hq',c9]|apply kh<;>intro qa|((first|apply kH|apply kI)<;>(intro qa;simp only[go_sem,qa,hlt,hk',z,hwm,hmt,hq',c9]))
    exact⟨_,rfl,fun _=>hL⟩
   repeat' first|(first|refine kcc ?_|refine kjj kq25 ?_|apply kU);simp only[go_sem,hlt,hk',z,hwm,hmt,hq',c9]|apply kh<;>intro qa|((first|apply kH|apply kI)<;>(intro qa;simp only[go_sem,qa,hlt,hk',z,hwm,hmt,hq',c9]))
   refine CallC.nd (caps:=[]) (hE) (by simp only[go_sem]) (kP (by simp only[go_sem])) ?_
   rintro _ ⟨b,rfl⟩
   cases b
   ·simp only[go_sem]
    repeat' first|(first|refine kcc ?_|refine kjj kq25 ?_|apply kU|apply kF);simp only[go_sem]|apply kh<;>intro qa|((first|apply kH|apply kI)<;>(intro qa;simp only[go_sem,qa,hw]))
    exact⟨_,rfl,fun _=>hL⟩
   ·simp only[go_sem]
    repeat' first|(first|refine kcc ?_|refine kjj kq25 ?_|apply kU);simp only[go_sem,hw]|apply kh<;>intro qa|((first|apply kH|apply kI)<;>(intro qa;simp only[go_sem,qa,hw]))
    exact kmm
 ·intro hlt
  repeat' first|(first|refine kcc ?_|refine kjj kq25 ?_|apply kU|apply kF);simp only[go_sem,hlt]|apply kh<;>intro qa|((first|apply kH|apply kI)<;>(intro qa;simp only[go_sem,qa]))
  all_goals exact⟨_,rfl,fun _=>hL⟩
structure OneG(ps:List Pers)(g:Grp):Prop where
 pp:g.people.Pairwise (· < ·)
 pe: ∀x∈g.people,∃p∈ps,p.id=x
 sp:g.subs.Pairwise (· < ·)
theorem qm5{ps:List Pers}{x:Int}(h:(vH ps x).2=true): ∃p∈ps,p.id=x:=by
 unfold vH at h
 split at h
 ·rename_i p hp
  exact⟨p,List.mem_of_find?_eq_some hp,by simpa using List.find?_some hp⟩
 ·cases h
theorem qpK(ps:List Pers)(l:List Grp)(k:Nat)(g:Grp)(hk:l[k]? =some g)(hp:ps.length<=1000000)(hl:l.length<=1000000)(hn:g.name.size<=1048576)(hpl:g.people.length<=1048576)(hsl:g.subs.length<=1048576):qo pP 121 [dv (.sl 3 (ps.map Pers.enc)),dv (.sl 4 (l.map Grp.enc)),dv (li k)] (fun x=>∃e:Int,x=dv (li e)/\(e=0->OneG ps g)):=by
 have qK:=kmax
 have hkl:=(wd.1 hk).1
 have hI:=qb9 g.id
 have hN:=qcO g.name hn
 have hU:=rUp_N g.people (by omega)
 have hS:=rUp_N g.subs (by omega)
 refine vt (N:=63) (rs:=[.tmp 6]) (by kernel_rfl) Tryz.func121 rfl rfl rfl (by simp) ?_
 cases c1:qlf g.id<;>rw[c1]at hI
 ·repeat' first|(first|refine kcc ?_|refine kjj kq26 ?_|refine kx hI ?_|apply kU|apply kF);simp only[go_sem,hk,Grp.enc]|apply kh<;>intro qa
  exact⟨_,rfl,fun h=>absurd h (by decide)⟩
 rcases kzq k (by omega)with⟨h0,z⟩|⟨m,hm1,z,hwm,hmt⟩
 ·repeat' first|(first|refine kcc ?_|refine kjj kq26 ?_|refine kx hI ?_|apply kU);simp only[go_sem,hk,Grp.enc,z]|apply kh<;>intro qa
  refine CallC.nd (caps:=[]) (hN) (by simp only[go_sem]) (kP (by simp only[go_sem])) ?_
  rintro _ ⟨b,rfl⟩
  simp only[go_sem]
  cases b
  ·repeat' first|(first|refine kcc ?_|refine kjj kq26 ?_|apply kU|apply kF);simp only[go_sem]|apply kh<;>intro qa
   exact⟨_,rfl,fun h=>absurd h (by decide)⟩
  repeat' first|(first|refine kcc ?_|refine kjj kq26 ?_|apply kU);simp only[go_sem]|apply kh<;>intro qa
  refine CallC.nd (caps:=[]) (hU) (by simp only[go_sem]) (kP (by simp only[go_sem])) ?_
  rintro _ ⟨b,rfl,hb⟩
  simp only[go_sem]
  cases b
  ·repeat' first|(first|refine kcc ?_|refine kjj kq26 ?_|apply kU|apply kF);simp only[go_sem]|apply kh<;>intro qa
   exact⟨_,rfl,fun h=>absurd h (by decide)⟩
  have hpp:=hb rfl
  repeat' first|(first|refine kcc ?_|refine kjj kq26 ?_|apply kU);simp only[go_sem]|apply kh<;>intro qa
  refine qC g.people (fun i=>kn 63 [(0,dv (.sl 3 (ps.map Pers.enc))),(7,.one (.bx 7 4 0 0)),(42,dv (li g.people.length)),(43,dv (li i))] (ml [(7,[g.row])])) (fun i=>∀x∈g.people.take i,∃p∈ps,p.id=x) (by omega) (km (by simp only[go_sem,Grp.row])) (by simp) ?_ ?_
  ·intro i x hx hxm hxk htx Qj hwi hi
   have hx':=qp hx
   have hP:=Qe ps x hp
   have hpo:=fun h=>qm5 (ps:=ps) (x:=x) h
   generalize vH ps x=pp at hP hpo
   obtain⟨pq,ok⟩:=pp
   simp only[Pers.row]at hP
   cases ok
   ·repeat' first|(first|refine kcc ?_|refine kjj kq26 ?_|refine kx hP ?_|apply kU|apply kF);simp only[go_sem,Qj,hx',Grp.row]|apply kh<;>intro qa
    exact⟨_,rfl,fun h=>absurd h (by decide)⟩
   ·repeat' first|(first|refine kcc ?_|refine kjj kq26 ?_|refine kx hP ?_|apply kU);simp only[go_sem,Qj,hwi,hx',Grp.row]|apply kh<;>intro qa
    refine⟨fun y hy=>?_,kmm⟩
    rw[htx]at hy
    rcases wo.1 hy with hy|hy
    ·exact hi y hy
    ·simp at hy;rw[hy];exact hpo rfl
  ·intro Qj hi
   rw[wh]at hi
   repeat' first|(first|refine kcc ?_|refine kjj kq26 ?_|apply kU);simp only[go_sem,Qj,Grp.row]|apply kh<;>intro qa
   refine CallC.nd (caps:=[]) (hS) (by simp only[go_sem]) (kP (by simp only[go_sem])) ?_
   rintro _ ⟨b,rfl,hb⟩
   simp only[go_sem]
   cases b
   ·repeat' first|(first|refine kcc ?_|refine kjj kq26 ?_|apply kU|apply kF);simp only[go_sem]|apply kh<;>intro qa
    exact⟨_,rfl,fun h=>absurd h (by decide)⟩
   ·repeat' first|(first|refine kcc ?_|refine kjj kq26 ?_|apply kU|apply kF);simp only[go_sem]|apply kh<;>intro qa
    exact⟨_,rfl,fun _=>⟨hpp,hi,hb rfl⟩⟩
 ·obtain⟨q,hq⟩: ∃q,l[m]? =some q:=⟨_,wc (by omega)⟩
  cases c9:decide (g.id<=q.id)
  rotate_left
  ·repeat' first|(first|refine kcc ?_|refine kjj kq26 ?_|refine kx hI ?_|apply kU|apply kF);simp only[go_sem,hk,Grp.enc,z,hwm,hmt,hq,c9]|apply kh<;>intro qa
   exact⟨_,rfl,fun h=>absurd h (by decide)⟩
  repeat' first|(first|refine kcc ?_|refine kjj kq26 ?_|refine kx hI ?_|apply kU);simp only[go_sem,hk,Grp.enc,z,hwm,hmt,hq,c9]|apply kh<;>intro qa
  refine CallC.nd (caps:=[]) (hN) (by simp only[go_sem]) (kP (by simp only[go_sem])) ?_
  rintro _ ⟨b,rfl⟩
  simp only[go_sem]
  cases b
  ·repeat' first|(first|refine kcc ?_|refine kjj kq26 ?_|apply kU|apply kF);simp only[go_sem]|apply kh<;>intro qa
   exact⟨_,rfl,fun h=>absurd h (by decide)⟩
  repeat' first|(first|refine kcc ?_|refine kjj kq26 ?_|apply kU);simp only[go_sem]|apply kh<;>intro qa
  refine CallC.nd (caps:=[]) (hU) (by simp only[go_sem]) (kP (by simp only[go_sem])) ?_
  rintro _ ⟨b,rfl,hb⟩
  simp only[go_sem]
  cases b
  ·repeat' first|(first|refine kcc ?_|refine kjj kq26 ?_|apply kU|apply kF);simp only[go_sem]|apply kh<;>intro qa
   exact⟨_,rfl,fun h=>absurd h (by decide)⟩
  have hpp:=hb rfl
  repeat' first|(first|refine kcc ?_|refine kjj kq26 ?_|apply kU);simp only[go_sem]|apply kh<;>intro qa
  refine qC g.people (fun i=>kn 63 [(0,dv (.sl 3 (ps.map Pers.enc))),(7,.one (.bx 7 4 0 0)),(42,dv (li g.people.length)),(43,dv (li i))] (ml [(7,[g.row])])) (fun i=>∀x∈g.people.take i,∃p∈ps,p.id=x) (by omega) (km (by simp only[go_sem,Grp.row])) (by simp) ?_ ?_
  ·intro i x hx hxm hxk htx Qj hwi hi
   have hx':=qp hx
   have hP:=Qe ps x hp
   have hpo:=fun h=>qm5 (ps:=ps) (x:=x) h
   generalize vH ps x=pp at hP hpo
   obtain⟨pq,ok⟩:=pp
   simp only[Pers.row]at hP
   cases ok
   ·repeat' first|(first|refine kcc ?_|refine kjj kq26 ?_|refine kx hP ?_|apply kU|apply kF);simp only[go_sem,Qj,hx',Grp.row]|apply kh<;>intro qa
    exact⟨_,rfl,fun h=>absurd h (by decide)⟩
   ·repeat' first|(first|refine kcc ?_|refine kjj kq26 ?_|refine kx hP ?_|apply kU);simp only[go_sem,Qj,hwi,hx',Grp.row]|apply kh<;>intro qa
    refine⟨fun y hy=>?_,kmm⟩
    rw[htx]at hy
    rcases wo.1 hy with hy|hy
    ·exact hi y hy
    ·simp at hy;rw[hy];exact hpo rfl
  ·intro Qj hi
   rw[wh]at hi
   repeat' first|(first|refine kcc ?_|refine kjj kq26 ?_|apply kU);simp only[go_sem,Qj,Grp.row]|apply kh<;>intro qa
   refine CallC.nd (caps:=[]) (hS) (by simp only[go_sem]) (kP (by simp only[go_sem])) ?_
   rintro _ ⟨b,rfl,hb⟩
   simp only[go_sem]
   cases b
   ·repeat' first|(first|refine kcc ?_|refine kjj kq26 ?_|apply kU|apply kF);simp only[go_sem]|apply kh<;>intro qa
    exact⟨_,rfl,fun h=>absurd h (by decide)⟩
   ·repeat' first|(first|refine kcc ?_|refine kjj kq26 ?_|apply kU|apply kF);simp only[go_sem]|apply kh<;>intro qa
    exact⟨_,rfl,fun _=>⟨hpp,hi,hb rfl⟩⟩
end Go.Proofs.YtaaodllggdjhiaaGreatDoor
namespace Go.Proofs.YtaaodllggdjhiaaGreatDoor
abbrev kq27:Nat->List (Nat×Go.Dl.Mode):=fun n=>match n with|23=>kpm20|_=>[]
end Go.Proofs.YtaaodllggdjhiaaGreatDoor
namespace Go.Proofs.YtaaodllggdjhiaaGreatDoor
open Go.Dl S
attribute [local irreducible] DW DCalls ECalls qo wk IW
structure GrpS(l:List Grp):Prop where
 name: ∀g∈l,g.name.size<=1048576
 ppl: ∀g∈l,g.people.length<=1048576
 subs: ∀g∈l,g.subs.length<=1048576
theorem grpB_of{ps:List Pers}{l:List Grp}(hp:ps.length<=1000)(hl:l.length<=20)(h1: ∀g∈l,OneG ps g)(h2: ∀g∈l,∀x∈g.subs,∃q∈l,q.id=x):GrpB l where
 len:=hl
 subs g hg:=by
  have:=up_len g.subs (l.map (·.id)) (h1 g hg).sp fun x hx=>by
   obtain⟨q,hq,e⟩:=h2 g hg x hx
   exact wI.2 ⟨q,hq,e⟩
  rw[we]at this
  omega
 ppl g hg:=by
  have:=up_len g.people (ps.map (·.id)) (h1 g hg).pp fun x hx=>by
   obtain⟨q,hq,e⟩:=(h1 g hg).pe x hx
   exact wI.2 ⟨q,hq,e⟩
  rw[we]at this
  omega
theorem qkM(ps:List Pers)(l:List Grp)(hp:ps.length<=1000)(hs:GrpS l):qo pP 61 [dv (.sl 3 (ps.map Pers.enc)),dv (.sl 4 (l.map Grp.enc))] (fun x=>∃e:Int,x=dv (li e)/\(e=0->GrpB l)):=by
 have qK:=kmax
 refine vt (N:=72) (rs:=[.tmp 4]) (by kernel_rfl) Tryz.func61 rfl rfl rfl (by simp) ?_
 cases c0:decide ((20:Int)<(l.length:Int))
 rotate_left
 ·repeat' first|(first|refine kcc ?_|refine kjj kq27 ?_|apply kU|apply kF);simp +decide only[go_sem,c0]|apply kh<;>intro qa
  exact⟨_,rfl,fun h=>absurd h (by decide)⟩
 have hl:l.length<=20:=by simp at c0;omega
 repeat' first|(first|refine kcc ?_|refine kjj kq27 ?_|apply kU);simp +decide only[go_sem,c0]|apply kh<;>intro qa
 refine qC l (fun k=>kn 72 [(0,dv (.sl 3 (ps.map Pers.enc))),(1,dv (.sl 4 (l.map Grp.enc))),(14,dv (li l.length)),(15,dv (li k))] qc) (fun k=>∀g∈l.take k,OneG ps g) (by omega) kl (by simp) ?_ ?_
 ·intro k g hk hm hkk htk hlt hw hi
  have hgm:=wl hk
  have hC:=qpK ps l k g hk (by omega) (by omega) (hs.name g hgm) (hs.ppl g hgm) (hs.subs g hgm)
  repeat' first|(first|refine kcc ?_|refine kjj kq27 ?_|apply kU);simp +decide only[go_sem,hlt]|apply kh<;>intro qa
  refine CallC.nd (caps:=[]) (hC) (by simp +decide only[go_sem]) (kP (by simp +decide only[go_sem])) ?_
  rintro _ ⟨e,rfl,he⟩
  simp +decide only[go_sem]
  cases c1:e !=0
  rotate_left
  ·repeat' first|(first|refine kcc ?_|refine kjj kq27 ?_|apply kU|apply kF);simp +decide only[go_sem,c1]|apply kh<;>intro qa
   exact⟨e,rfl,fun h=>absurd h (by simpa using c1)⟩
  repeat' first|(first|refine kcc ?_|refine kjj kq27 ?_|apply kU);simp +decide only[go_sem,c1,hw]|apply kh<;>intro qa
  refine⟨fun y hy=>?_,kl⟩
  rw[htk]at hy
  rcases wo.1 hy with hy|hy
  ·exact hi y hy
  ·simp at hy;rw[hy];exact he (by simpa using c1)
 intro hlt hone
 rw[wh]at hone
 repeat' first|(first|refine kcc ?_|refine kjj kq27 ?_|apply kU);simp +decide only[go_sem,hlt]|apply kh<;>intro qa
 refine qC l (fun k=>kn 72 [(1,dv (.sl 4 (l.map Grp.enc))),(27,dv (li l.length)),(28,dv (li k))] qc) (fun k=>∀g∈l.take k,∀x∈g.subs,∃q∈l,q.id=x) (by omega) kl (by simp) ?_ ?_
 ·intro k g hk hm hkk htk hlt hw hi
  have hgm:=wl hk
  have hsl:=hs.subs g hgm
  repeat' first|(first|refine kcc ?_|refine kjj kq27 ?_|apply kU);simp +decide only[go_sem,hlt,hk,Grp.enc]|apply kh<;>intro qa
  refine qC g.subs (fun i=>kn 72 [(1,dv (.sl 4 (l.map Grp.enc))),(7,dv (li k)),(27,dv (li l.length)),(28,dv (li k)),(36,dv (li g.subs.length)),(37,dv (li i))] qc) (fun i=>∀x∈g.subs.take i,∃q∈l,q.id=x) (by omega) kl (by simp) ?_ ?_
  ·intro i x hx hxm hxk htx Qj hwi hii
   have hx':=qp hx
   have hF:=ZB l x (by omega)
   rcases zg l x with⟨j,q,hj,hi,e⟩|⟨hi,e⟩
   ·rw[hi]at hF
    have hge:decide ((j:Int)<0)=false:=decide_eq_false (by omega)
    repeat' first|(first|refine kcc ?_|refine kjj kq27 ?_|refine kx hF ?_|apply kU);simp +decide only[go_sem,Qj,hwi,hk,hx',hge,Grp.enc]|apply kh<;>intro qa
    refine⟨fun y hy=>?_,kl⟩
    rw[htx]at hy
    rcases wo.1 hy with hy|hy
    ·exact hii y hy
    ·simp at hy;rw[hy];exact qfn (l:=l) (by rw[e])
   ·rw[hi]at hF
    repeat' first|(first|refine kcc ?_|refine kjj kq27 ?_|refine kx hF ?_|apply kU|apply kF);simp +decide only[go_sem,Qj,hk,hx',Grp.enc]|apply kh<;>intro qa
    exact⟨_,rfl,fun h=>absurd h (by decide)⟩
  ·intro Qj hii
   rw[wh]at hii
   repeat' first|(first|refine kcc ?_|refine kjj kq27 ?_|apply kU);simp +decide only[go_sem,Qj,hw]|apply kh<;>intro qa
   refine⟨fun y hy=>?_,kl⟩
   rw[htk]at hy
   rcases wo.1 hy with hy|hy
   ·exact hi y hy
   ·simp at hy;rw[hy];exact hii
 intro hlt htwo
 rw[wh]at htwo
 have hB:=grpB_of hp hl hone htwo
 repeat' first|(first|refine kcc ?_|refine kjj kq27 ?_|apply kU);simp +decide only[go_sem,hlt]|apply kh<;>intro qa
 refine qj l (fun k=>kn 72 [(1,dv (.sl 4 (l.map Grp.enc))),(54,dv (li l.length)),(55,dv (li k))] qc) (by omega) kl ?_ ?_
 ·intro k g hk hm hkk htk hlt hw
  have hW:=qjp l g.id hB
  have hbl:=up_len _ _ (qco (l:=l) g.id).1 (qco (l:=l) g.id).2
  have hfl:=qaX hB
  have hH:=ZA (zN l g.id) g.id (by omega)
  cases c:(zN l g.id).any (fun x=>x==g.id)<;>rw[c]at hH
  ·repeat' first|(first|refine kcc ?_|refine kjj kq27 ?_|refine kx hW ?_|refine kx hH ?_|apply kU);simp +decide only[go_sem,hlt,hw,hk,Grp.enc]|apply kh<;>intro qa
   exact kl
  ·repeat' first|(first|refine kcc ?_|refine kjj kq27 ?_|refine kx hW ?_|refine kx hH ?_|apply kU|apply kF);simp +decide only[go_sem,hlt,hk,Grp.enc]|apply kh<;>intro qa
   exact⟨_,rfl,fun h=>absurd h (by decide)⟩
 ·intro hlt
  repeat' first|(first|refine kcc ?_|refine kjj kq27 ?_|apply kU|apply kF);simp +decide only[go_sem,hlt]|apply kh<;>intro qa
  exact⟨_,rfl,fun _=>hB⟩
end Go.Proofs.YtaaodllggdjhiaaGreatDoor
namespace Go.Proofs.YtaaodllggdjhiaaGreatDoor
abbrev kpm27:List (Nat×Go.Dl.Mode):=[(0,.light),(1,.light),(2,.light),(3,.light),(4,.light),(5,.light),(6,.light),(7,.light),(8,.light),(9,.light),(10,.light),(11,.light),(12,.light),(13,.light),(14,.light),(15,.light),(16,.light),(17,.light),(18,.light)]
abbrev kpm28:List (Nat×Go.Dl.Mode):=[(0,.light),(1,.light),(2,.light),(3,.light),(4,.light),(5,.light),(6,.light),(7,.step),(8,.light)]
abbrev kq28:Nat->List (Nat×Go.Dl.Mode):=fun n=>match n with|8=>kpm27|_=>[]
abbrev kq29:Nat->List (Nat×Go.Dl.Mode):=fun n=>match n with|18=>kpm28|_=>[]
end Go.Proofs.YtaaodllggdjhiaaGreatDoor
namespace Go.Proofs.YtaaodllggdjhiaaGreatDoor
open Go.Dl S
attribute [local irreducible] DW DCalls ECalls qo wk IW
theorem rRule_N(rs:List Rcd)(a:Rgt)(r:Rle)(hr:rs.length<=1000000)(hl:a.groups.length<=1000000)(hg:r.grps.length<=1048576):qo pP 63 [dv (.sl 5 (rs.map Rcd.enc)),.agg a.row,.agg r.row] (fun x=>∃e:Int,x=dv (li e)/\(e=0->0<=r.lvl/\r.lvl<=3)):=by
 have qK:=kmax
 have hI:=qb9 r.rcd
 have hR:=Qd r.span
 have hC:=qkL a.groups r hl hg
 simp only[Spn.row,Rle.span]at hR
 refine vt (N:=52) (rs:=[.tmp 6]) (by kernel_rfl) Tryz.func63 rfl rfl rfl (by simp) ?_
 cases c1:qlf r.rcd<;>rw[c1]at hI
 ·repeat' first|(first|refine kcc ?_|refine kjj kq28 ?_|refine kx hI ?_|apply kU|apply kF);simp only[go_sem,Rle.row,Rgt.row]|apply kh<;>intro qa
  exact⟨_,rfl,fun h=>absurd h (by decide)⟩
 cases c2:(r.fr==0&&r.tg==0)
 ·cases c3:qg ⟨r.fr,r.tg⟩<;>rw[c3]at hR
  ·repeat' first|(first|refine kcc ?_|refine kjj kq28 ?_|refine kx hI ?_|refine kx hR ?_|apply kU|apply kF);simp only[go_sem,c2,Rle.row,Rgt.row]|apply kh<;>intro qa
   exact⟨_,rfl,fun h=>absurd h (by decide)⟩
  repeat' first|(first|refine kcc ?_|refine kjj kq28 ?_|refine kx hI ?_|refine kx hR ?_|apply kU);simp only[go_sem,c2,Rle.row,Rgt.row]|apply kh<;>intro qa
  refine qj rs (fun k=>kn 52 [(0,dv (.sl 5 (rs.map Rcd.enc))),(4,.one (.bx 4 4 0 0)),(5,.one (.bx 5 6 0 0)),(23,dv (li rs.length)),(24,dv (li k))] (ml [(4,[a.row]),(5,[r.row])])) (by omega) (km (by simp only[go_sem,Rle.row,Rgt.row])) ?_ ?_
  ·intro k q hk hm hkk htk hlt hw
   cases c4:q.id==r.rcd
   ·repeat' first|(first|refine kcc ?_|refine kjj kq28 ?_|apply kU);simp only[go_sem,hlt,hw,hk,c4,Rcd.enc,Rle.row,Rgt.row]|apply kh<;>intro qa
    exact kmm
   cases c5:decide (q.len<r.tg)
   ·repeat' first|(first|refine kcc ?_|refine kjj kq28 ?_|apply kU);simp only[go_sem,hlt,hw,hk,c4,c5,Rcd.enc,Rle.row,Rgt.row]|apply kh<;>intro qa
    exact kmm
   ·repeat' first|(first|refine kcc ?_|refine kjj kq28 ?_|apply kU|apply kF);simp only[go_sem,hlt,hk,c4,c5,Rcd.enc,Rle.row,Rgt.row]|apply kh<;>intro qa
    exact⟨_,rfl,fun h=>absurd h (by decide)⟩
  ·intro hlt
   repeat' first|(first|refine kcc ?_|refine kjj kq28 ?_|apply kU);simp only[go_sem,hlt,Rle.row,Rgt.row]|apply kh<;>intro qa
   refine CallC.nd (caps:=[]) (hC) (by simp only[go_sem]) (kP (by simp only[go_sem])) ?_
   rintro _ ⟨e,rfl,he⟩
   simp only[go_sem]
   repeat' first|(first|refine kcc ?_|refine kjj kq28 ?_|apply kU|apply kF);simp only[go_sem]|apply kh<;>intro qa
   exact⟨e,rfl,he⟩
 repeat' first|(first|refine kcc ?_|refine kjj kq28 ?_|refine kx hI ?_|apply kU);simp only[go_sem,c2,Rle.row,Rgt.row]|apply kh<;>intro qa
 refine qj rs (fun k=>kn 52 [(0,dv (.sl 5 (rs.map Rcd.enc))),(4,.one (.bx 4 4 0 0)),(5,.one (.bx 5 6 0 0)),(23,dv (li rs.length)),(24,dv (li k))] (ml [(4,[a.row]),(5,[r.row])])) (by omega) (km (by simp only[go_sem,Rle.row,Rgt.row])) ?_ ?_
 ·intro k q hk hm hkk htk hlt hw
  cases c4:q.id==r.rcd
  ·repeat' first|(first|refine kcc ?_|refine kjj kq28 ?_|apply kU);simp only[go_sem,hlt,hw,hk,c4,Rcd.enc,Rle.row,Rgt.row]|apply kh<;>intro qa
   exact kmm
  cases c5:decide (q.len<r.tg)
  ·repeat' first|(first|refine kcc ?_|refine kjj kq28 ?_|apply kU);simp only[go_sem,hlt,hw,hk,c4,c5,Rcd.enc,Rle.row,Rgt.row]|apply kh<;>intro qa
   exact kmm
  ·repeat' first|(first|refine kcc ?_|refine kjj kq28 ?_|apply kU|apply kF);simp only[go_sem,hlt,hk,c4,c5,Rcd.enc,Rle.row,Rgt.row]|apply kh<;>intro qa
   exact⟨_,rfl,fun h=>absurd h (by decide)⟩
 ·intro hlt
  repeat' first|(first|refine kcc ?_|refine kjj kq28 ?_|apply kU);simp only[go_sem,hlt,Rle.row,Rgt.row]|apply kh<;>intro qa
  refine CallC.nd (caps:=[]) (hC) (by simp only[go_sem]) (kP (by simp only[go_sem])) ?_
  rintro _ ⟨e,rfl,he⟩
  simp only[go_sem]
  repeat' first|(first|refine kcc ?_|refine kjj kq28 ?_|apply kU|apply kF);simp only[go_sem]|apply kh<;>intro qa
  exact⟨e,rfl,he⟩
structure RgtS(a:Rgt):Prop where
 ppl: ∀p∈a.people,p.name.size<=1048576
 grp:GrpS a.groups
 cons:a.cons.length<=1000000
 rul: ∀r∈a.rules,r.grps.length<=1048576
structure RgtD(a:Rgt):Prop where
 grp:GrpB a.groups
 lvl: ∀r∈a.rules,0<=r.lvl/\r.lvl<=3
theorem qkK(rs:List Rcd)(a:Rgt)(hr:rs.length<=1000000)(hrn: ∀r∈rs,r.name.size<=1048576)(hrs: ∀r∈rs,r.sp.length<=1048576)(hp:a.people.length<=1000)(hg:a.groups.length<=1000000)(hS:RgtS a):qo pP 22 [dv (.sl 5 (rs.map Rcd.enc)),.agg a.row] (fun x=>∃e:Int,x=dv (li e)/\(e=0->RgtD a)):=by
 have qK:=kmax
 have h1:=qmK a.people hS.ppl
 have h2:=rRecs_N a.people rs (by omega) hrn hrs
 have h3:=qkM a.people a.groups hp hS.grp
 have h4:=qpP a.people a.cons (by omega) hS.cons
 refine vt (N:=58) (rs:=[.tmp 4]) (by kernel_rfl) Tryz.func22 rfl rfl rfl (by simp) ?_
 repeat' first|(first|refine kcc ?_|refine kjj kq29 ?_|apply kU);simp only[go_sem,Rgt.row]|apply kh<;>intro qa
 refine CallC.nd (caps:=[]) (h1) (by simp only[go_sem]) (kP (by simp only[go_sem])) ?_
 rintro _ ⟨e,rfl⟩
 simp only[go_sem]
 cases c1:e !=0
 rotate_left
 ·repeat' first|(first|refine kcc ?_|refine kjj kq29 ?_|apply kU|apply kF);simp only[go_sem,c1]|apply kh<;>intro qa
  exact⟨e,rfl,fun h=>absurd h (by simpa using c1)⟩
 repeat' first|(first|refine kcc ?_|refine kjj kq29 ?_|apply kU);simp only[go_sem,c1]|apply kh<;>intro qa
 refine CallC.nd (caps:=[]) (h2) (by simp only[go_sem]) (kP (by simp only[go_sem])) ?_
 rintro _ ⟨e,rfl⟩
 simp only[go_sem]
 cases c2:e !=0
 rotate_left
 ·repeat' first|(first|refine kcc ?_|refine kjj kq29 ?_|apply kU|apply kF);simp only[go_sem,c2]|apply kh<;>intro qa
  exact⟨e,rfl,fun h=>absurd h (by simpa using c2)⟩
 repeat' first|(first|refine kcc ?_|refine kjj kq29 ?_|apply kU);simp only[go_sem,c2]|apply kh<;>intro qa
 refine CallC.nd (caps:=[]) (h3) (by simp only[go_sem]) (kP (by simp only[go_sem])) ?_
 rintro _ ⟨e,rfl,he⟩
 simp only[go_sem]
 cases c3:e !=0
 rotate_left
 ·repeat' first|(first|refine kcc ?_|refine kjj kq29 ?_|apply kU|apply kF);simp only[go_sem,c3]|apply kh<;>intro qa
  exact⟨e,rfl,fun h=>absurd h (by simpa using c3)⟩
 have hB:=he (by simpa using c3)
 generalize qhj a.people a.cons=e4 at h4
 cases c4:e4 !=0
 rotate_left
 ·repeat' first|(first|refine kcc ?_|refine kjj kq29 ?_|refine kx h4 ?_|apply kU|apply kF);simp only[go_sem,c3,c4]|apply kh<;>intro qa
  exact⟨_,rfl,fun h=>absurd h (by simpa using c4)⟩
 cases c5:decide ((60:Int)<(a.rules.length:Int))
 rotate_left
 ·repeat' first|(first|refine kcc ?_|refine kjj kq29 ?_|refine kx h4 ?_|apply kU|apply kF);simp only[go_sem,c3,c4,c5]|apply kh<;>intro qa
  exact⟨_,rfl,fun h=>absurd h (by decide)⟩
 have hrl:a.rules.length<=60:=by simp at c5;omega
 repeat' first|(first|refine kcc ?_|refine kjj kq29 ?_|refine kx h4 ?_|apply kU);simp only[go_sem,c3,c4,c5]|apply kh<;>intro qa
 refine qC a.rules (fun k=>kn 58 [(0,dv (.sl 5 (rs.map Rcd.enc))),(3,.one (.bx 3 4 0 0)),(42,dv (li a.rules.length)),(43,dv (li k))] (ml [(3,[a.row])])) (fun k=>∀r∈a.rules.take k,0<=r.lvl/\r.lvl<=3) (by omega) (km (by simp only[go_sem,Rgt.row])) (by simp) ?_ ?_
 ·intro k r hk hm hkk htk hlt hw hi
  have hR:=rRule_N rs a r hr hg (hS.rul r (wl hk))
  simp only[Rgt.row,Rle.row]at hR
  repeat' first|(first|refine kcc ?_|refine kjj kq29 ?_|apply kU);simp only[go_sem,hlt,hk,Rgt.row,Rle.enc]|apply kh<;>intro qa
  refine CallC.nd (caps:=[]) (hR) (by simp only[go_sem]) (kP (by simp only[go_sem])) ?_
  rintro _ ⟨e,rfl,he⟩
  simp only[go_sem]
  cases c6:e !=0
  rotate_left
  ·repeat' first|(first|refine kcc ?_|refine kjj kq29 ?_|apply kU|apply kF);simp only[go_sem,c6]|apply kh<;>intro qa
   exact⟨e,rfl,fun h=>absurd h (by simpa using c6)⟩
  repeat' first|(first|refine kcc ?_|refine kjj kq29 ?_|apply kU);simp only[go_sem,c6,hw]|apply kh<;>intro qa
  refine⟨fun y hy=>?_,kmm⟩
  rw[htk]at hy
  rcases wo.1 hy with hy|hy
  ·exact hi y hy
  ·simp at hy;rw[hy];exact he (by simpa using c6)
 ·intro hlt hi
  rw[wh]at hi
  repeat' first|(first|refine kcc ?_|refine kjj kq29 ?_|apply kU|apply kF);simp only[go_sem,hlt]|apply kh<;>intro qa
  exact⟨_,rfl,fun _=>⟨hB,hi⟩⟩
theorem qkH(rs:List Rcd)(a:Rgt)(hrn: ∀r∈rs,r.name.size<=1048576)(hrs: ∀r∈rs,r.sp.length<=1048576)(hS:RgtS a):qo pP 5 [.agg a.row,dv (.sl 5 (rs.map Rcd.enc))] (fun x=>∃b:Bool,x=dv (lb b)/\(b=true->RgtD a/\a.people.length<=8/\a.groups.length<=6/\a.cons.length<=12/\a.rules.length<=10)):=by
 have qK:=kmax
 refine vt (N:=36) (rs:=[.tmp 4]) (by kernel_rfl) Tryz.func5 rfl rfl rfl (by simp) ?_
 cases t1:decide ((8:Int)<(a.people.length:Int))
 rotate_left
 ·repeat' first|(first|refine kcc ?_|apply kU);simp only[go_sem,t1,Rgt.row]|apply kh<;>intro qa
  apply kF;simp only[go_sem]
  exact⟨false,rfl,fun h=>by cases h⟩
 cases t2:decide ((6:Int)<(a.groups.length:Int))
 rotate_left
 ·repeat' first|(first|refine kcc ?_|apply kU);simp only[go_sem,t1,t2,Rgt.row]|apply kh<;>intro qa
  apply kF;simp only[go_sem]
  exact⟨false,rfl,fun h=>by cases h⟩
 cases t3:decide ((12:Int)<(a.cons.length:Int))
 rotate_left
 ·repeat' first|(first|refine kcc ?_|apply kU);simp only[go_sem,t1,t2,t3,Rgt.row]|apply kh<;>intro qa
  apply kF;simp only[go_sem]
  exact⟨false,rfl,fun h=>by cases h⟩
 cases t4:decide ((10:Int)<(a.rules.length:Int))
 rotate_left
 ·repeat' first|(first|refine kcc ?_|apply kU);simp only[go_sem,t1,t2,t3,t4,Rgt.row]|apply kh<;>intro qa
  apply kF;simp only[go_sem]
  exact⟨false,rfl,fun h=>by cases h⟩
 cases t5:decide ((4:Int)<(rs.length:Int))
 rotate_left
 ·repeat' first|(first|refine kcc ?_|apply kU);simp only[go_sem,t1,t2,t3,t4,t5,Rgt.row]|apply kh<;>intro qa
  apply kF;simp only[go_sem]
  exact⟨false,rfl,fun h=>by cases h⟩
 have l1:a.people.length<=8:=by simp at t1;omega
 have l2:a.groups.length<=6:=by simp at t2;omega
 have l3:a.cons.length<=12:=by simp at t3;omega
 have l4:a.rules.length<=10:=by simp at t4;omega
 have l5:rs.length<=4:=by simp at t5;omega
 have hC:=qkK rs a (by omega) hrn hrs (by omega) (by omega) hS
 simp only[Rgt.row]at hC
 repeat' first|(first|refine kcc ?_|apply kU);simp only[go_sem,t1,t2,t3,t4,t5,Rgt.row]|apply kh<;>intro qa
 refine CallC.nd (caps:=[]) (hC) (by simp only[go_sem]) (kP (by simp only[go_sem])) ?_
 rintro _ ⟨e,rfl,he⟩
 simp only[go_sem]
 repeat' first|(first|refine kcc ?_|apply kU);simp only[go_sem]|apply kh<;>intro qa
 apply kF;simp only[go_sem]
 exact⟨e==0,rfl,fun h=>⟨he (by simpa using h),l1,l2,l3,l4⟩⟩
end Go.Proofs.YtaaodllggdjhiaaGreatDoor
namespace Go.Proofs.YtaaodllggdjhiaaGreatDoor
abbrev kpm29:List (Nat×Go.Dl.Mode):=[(0,.light),(1,.light),(2,.light),(3,.light),(4,.light),(5,.light),(6,.light),(7,.light),(8,.light),(9,.light),(10,.light),(11,.step),(12,.light)]
abbrev kq30:Nat->List (Nat×Go.Dl.Mode):=fun n=>match n with|5=>kpm29|_=>[]
end Go.Proofs.YtaaodllggdjhiaaGreatDoor
namespace Go.Proofs.YtaaodllggdjhiaaGreatDoor
open Go.Dl S
attribute [local irreducible] DW DCalls ECalls qo wk IW
theorem qey(cs:List Cons)(mem:Bool)(rid day s:Int)(l:List Int):qbL cs mem rid day (s::l)=if atK cs s rid day=0 then 26 else if atK cs s rid day=1/\mem=false then 25 else qbL cs mem rid day l:=rfl
theorem rBase_D(a:Rgt)(r:Rcd)(p day:Int)(hp:a.people.length<=1000000)(hc:a.cons.length<=1000000)(hs:r.sp.length<=1048576):DCalls pP 42 [.agg a.row,.agg r.row,.agg [.c (li p),.c (li day)]] (dv (li (qbL a.cons (memE a.people p) r.id day r.sp))):=by
 have qK:=kmax
 have hP:=Qe a.people p hp
 have hm:memE a.people p=((vH a.people p).2&&(vH a.people p).1.member):=rfl
 generalize memE a.people p=mem at*
 generalize vH a.people p=pp at*
 obtain⟨q,ok⟩:=pp
 simp only[Pers.row]at hP
 dsimp only at hm
 refine kd (N:=51) (rs:=[.tmp 6]) Tryz.func42 ?_
 repeat' first|(first|refine kcc ?_|refine kjj kq30 ?_|refine kx hP ?_|apply kU);simp only[go_sem,Rgt.row,Rcd.row]|apply kh<;>intro qa
 refine qC r.sp (fun k=>kn 51 [(3,.one (.bx 3 4 0 0)),(4,.one (.bx 4 5 0 0)),(5,.one (.bx 5 2 0 0)),(7,.one (.bx 7 3 0 0)),(8,dv (lb ok)),(21,dv (li r.sp.length)),(22,dv (li k))] (ml [(3,[a.row]),(4,[r.row]),(5,[[.c (li p),.c (li day)]]),(7,[q.row])])) (fun k=>qbL a.cons mem r.id day (r.sp.drop k)=qbL a.cons mem r.id day r.sp) (by omega) (km (by simp only[go_sem,Rgt.row,Rcd.row,Pers.row])) (by simp) ?_ ?_
 ·intro k x hk hmk hkk htk hlt hw hi
  have hk':=qp hk
  have hA:=rAt_D a.cons x r.id day hc
  have hdr:r.sp.drop k=x::r.sp.drop (k+1):=by
   rw[wL hmk];congr 1
   rw[wc hmk]at hk;injection hk
  rw[hdr,qey]at hi
  rw[<-hi]
  generalize atK a.cons x r.id day=lv at*
  cases c1:lv==0
  rotate_left
  ·have:lv=0:=by simpa using c1
   repeat' first|(first|refine kcc ?_|refine kjj kq30 ?_|refine kx hA ?_|apply kU|apply kF);simp only[go_sem,hlt,hk',c1,Rgt.row,Rcd.row,Pers.row]|apply kh<;>intro qa
   rw[if_pos this]
  have n1: ¬lv=0:=by simpa using c1
  rw[if_neg n1]at hi ⊢
  cases c2:lv==1
  ·have n2: ¬lv=1:=by simpa using c2
   rw[if_neg (fun h=>n2 h.1)]at hi ⊢
   repeat' first|(first|refine kcc ?_|refine kjj kq30 ?_|refine kx hA ?_|apply kU);simp only[go_sem,hlt,hw,hk',c1,c2,Rgt.row,Rcd.row,Pers.row]|apply kh<;>intro qa
   exact kmm
  have n2:lv=1:=by simpa using c2
  cases mem
  ·rw[if_pos ⟨n2,rfl⟩]
   cases ok
   ·repeat' first|(first|refine kcc ?_|refine kjj kq30 ?_|refine kx hA ?_|apply kU|apply kF);simp only[go_sem,hlt,hk',c1,c2,Rgt.row,Rcd.row,Pers.row]|apply kh<;>intro qa
   ·have hqm:q.member=false:=by simpa using hm.symm
    repeat' first|(first|refine kcc ?_|refine kjj kq30 ?_|refine kx hA ?_|apply kU|apply kF);simp only[go_sem,hlt,hk',c1,c2,hqm,Rgt.row,Rcd.row,Pers.row]|apply kh<;>intro qa
  ·rw[if_neg (fun h=>by cases h.2)]
   cases ok
   ·simp at hm
   have hqm:q.member=true:=by simpa using hm.symm
   repeat' first|(first|refine kcc ?_|refine kjj kq30 ?_|refine kx hA ?_|apply kU);simp only[go_sem,hlt,hw,hk',c1,c2,hqm,Rgt.row,Rcd.row,Pers.row]|apply kh<;>intro qa
   exact kmm
 ·intro hlt hi
  rw[jE]at hi
  rw[<-hi]
  repeat' first|(first|refine kcc ?_|refine kjj kq30 ?_|apply kU|apply kF);simp only[go_sem,hlt]|apply kh<;>intro qa
  rfl
def hitR(a:Rgt)(rid p day:Int)(r:Rle):Bool:=decide (r.rcd=rid)&& !mayR a r p day
def qf0(out:List Spn)(r:Rle):List Spn:=Qs out [r.span]
theorem qeM: ∀(l:List Rle) (o:List Spn),(l.foldl qf0 o).length<=o.length+l.length
 | [],o=>by simp
 | r::l,o=>by
  have h1:=qeM l (qf0 o r)
  have h2:=qk5 o [r.span]
  simp only[w6,wz,wR,qf0]at*
  omega
theorem qkB(a:Rgt)(r:Rcd)(p day:Int)(hD:RgtD a)(hS:RgtS a)(hp:a.people.length<=1000)(hs:r.sp.length<=1048576)(hrl:a.rules.length<=1000):DCalls pP 15 [.agg a.row,.agg r.row,.agg [.c (li p),.c (li day)]] (dv (.sl 2 (spns (qbP a r p day)))):=by
 have qK:=kmax
 have hB:=rBase_D a r p day (by omega) hS.cons hs
 unfold qbP spR
 generalize qbL a.cons (memE a.people p) r.id day r.sp=b at hB ⊢
 simp only[Rgt.row,Rcd.row]at hB
 cases c1:b !=0
 rotate_left
 ·have hb:decide (b=0)=false:=by simpa using c1
  rw[hb,Bool.false_and,if_neg (by simp)]
  refine kd (N:=58) (rs:=[.tmp 6]) Tryz.func15 ?_
  repeat' first|(first|refine kcc ?_|refine kx hB ?_|apply kU);simp +decide only[go_sem,c1,Rgt.row,Rcd.row]|apply kh<;>intro qa
  refine qw 6 (dv (.sl 2 [])) (by simp +decide only[go_sem]) ?_
  apply kF;simp +decide only[go_sem]
  all_goals rfl
 have hb:decide (b=0)=true:=by simpa using c1
 rw[hb,yy]
 have hh:qlj a r.id p day=a.rules.filter (hitR a r.id p day):=rfl
 rw[hh]
 refine kd (N:=58) (rs:=[.tmp 6]) Tryz.func15 ?_
 repeat' first|(first|refine kcc ?_|refine kx hB ?_|apply kU);simp +decide only[go_sem,c1,Rgt.row,Rcd.row]|apply kh<;>intro qa
 refine qC a.rules (fun k=>kn 58 [(3,.one (.bx 3 4 0 0)),(4,.one (.bx 4 5 0 0)),(5,.one (.bx 5 2 0 0)),(8,dv (.sl 2 (spns (((a.rules.take k).filter (hitR a r.id p day)).foldl qf0 [⟨0,r.len⟩])))),(23,dv (li a.rules.length)),(24,dv (li k))] (ml [(3,[a.row]),(4,[r.row]),(5,[[.c (li p),.c (li day)]])])) (fun k=>((a.rules.take k).filter (hitR a r.id p day)).any Rle.zero=false) (by omega) (kM rfl (by simp +decide only[go_sem,wg,yi,w9,wt,wn,Spn.enc]) (by simp +decide only[go_sem,Rgt.row,Rcd.row])) (by simp) ?_ ?_
 ·intro k u hk hmk hkk htk hlt hw hi
  have hum:=wl hk
  have hM:=qpM a.people a.groups u p day (by omega) hD.grp (hS.rul u hum)
  have hme:mayR ⟨a.people,a.groups,[],[]⟩ u p day=mayR a u p day:=rfl
  rw[hme]at hM
  have hz:(u.fr==0&&u.tg==0)=u.zero:=rfl
  have hol:(((a.rules.take k).filter (hitR a r.id p day)).foldl qf0 [⟨0,r.len⟩]).length<=5000:=by
   have h1:=qeM ((a.rules.take k).filter (hitR a r.id p day)) [⟨0,r.len⟩]
   have h2:=wC (hitR a r.id p day) (a.rules.take k)
   have h3:(a.rules.take k).length<=a.rules.length:=by rw[wx];omega
   simp only[wz,wR]at h1
   omega
  have hMn:=qgn (((a.rules.take k).filter (hitR a r.id p day)).foldl qf0 [⟨0,r.len⟩]) [u.span] (by omega) (by simp)
  rw[qZ _ htk,yp,List.any_append,hi]
  have hst: ∀o,Qs o [u.span]=qf0 o u:=fun _=>rfl
  rw[hst]at hMn
  generalize ((a.rules.take k).filter (hitR a r.id p day)).foldl qf0 [⟨0,r.len⟩]=out at*
  simp only[wt,wn,Spn.enc,Rle.span]at hMn
  cases c2:u.rcd !=r.id
  rotate_left
  ·have hn:hitR a r.id p day u=false:=by
    have: ¬u.rcd=r.id:=by simpa using c2
    simp[hitR,this]
   rw[hn]
   repeat' first|(first|refine kcc ?_|apply kU);simp +decide only[go_sem,hlt,hw,hk,c2,Rle.enc,Rgt.row,Rcd.row]|apply kh<;>intro qa
   exact kM rfl (by simp +decide only[go_sem,w9]) (by simp +decide only[go_sem])
  have hid:decide (u.rcd=r.id)=true:=by simpa using c2
  cases c3:mayR a u p day
  rotate_left
  ·have hn:hitR a r.id p day u=false:=by simp[hitR,c3]
   rw[hn]
   rw[c3]at hM
   repeat' first|(first|refine kcc ?_|refine kx hM ?_|apply kU);simp +decide only[go_sem,hlt,hw,hk,c2,Rle.enc,Rgt.row,Rcd.row]|apply kh<;>intro qa
   exact kM rfl (by simp +decide only[go_sem,w9]) (by simp +decide only[go_sem])
  have hn:hitR a r.id p day u=true:=by simp[hitR,c3,hid]
  rw[hn]
  rw[c3]at hM
  cases c4:u.zero
  ·rw[c4]at hz
   repeat' first|(first|refine kcc ?_|refine kx hM ?_|refine kx hMn ?_|apply kU);simp +decide only[go_sem,hlt,hw,hk,c2,hz,Rle.enc,Rgt.row,Rcd.row]|apply kh<;>intro qa
   exact⟨by simp[c4],kM rfl (by simp +decide only[go_sem,w9,w6]) (by simp +decide only[go_sem])⟩
  ·rw[c4]at hz
   have hany:(a.rules.filter (hitR a r.id p day)).any Rle.zero=true:=yo.2 ⟨u,wQ.2 ⟨hum,hn⟩,c4⟩
   rw[hany]
   repeat' first|(first|refine kcc ?_|refine kx hM ?_|refine kx hMn ?_|apply kU);simp +decide only[go_sem,hlt,hk,c2,hz,Rle.enc,Rgt.row,Rcd.row]|apply kh<;>intro qa
   refine qw 6 (dv (.sl 2 [])) (by simp +decide only[go_sem]) ?_
   apply kF;simp +decide only[go_sem]
   all_goals rfl
 ·intro hlt hi
  rw[wh]at hi ⊢
  rw[hi]
  repeat' first|(first|refine kcc ?_|apply kU|apply kF);simp +decide only[go_sem,hlt]|apply kh<;>intro qa
  rfl
theorem qqz(g:Grp)(id:Int):DCalls pP 229 [.agg g.row,dv (.pt [li id])] (dv (lb (g.id==id))):=by
 refine kd (N:=8) (rs:=[.tmp 3]) Tryz.func229 ?_
 repeat first|apply kA|apply kB|(first|refine kcc ?_|apply kD|apply kE);simp only[go_sem,Grp.row]
 apply kF;simp only[go_sem]
theorem idxG_D(l:List Grp)(id:Int)(hl:l.length<=1000000):DCalls pP 228 [dv (.sl 4 (l.map Grp.enc)),dv (.fn 229 [.pt [li id]])] (dv (li (idxF (fun g:Grp=>g.id==id) l))):=by
 have qK:=kmax
 refine kd (N:=19) (rs:=[.tmp 4]) Tryz.func228 ?_
 repeat first|apply kA|apply kB|(first|refine kcc ?_|apply kD|apply kE);simp only[go_sem]
 refine qaZ l (fun k (_:Unit)=>kn 19 [(0,dv (.sl 4 (l.map Grp.enc))),(1,dv (.fn 229 [.pt [li id]])),(7,dv (li l.length)),(8,dv (li k))] qc) (fun k _=>∀p∈l.take k,(p.id==id)=false) () (by omega) kl (by simp) ?_ ?_
 ·intro k p _ hp hk hm htk hlt hw hi
  have hc:=qqz p id
  simp only[Grp.row]at hc
  repeat' first|(first|refine kcc ?_|refine kx hc ?_|apply kU|apply kF);simp only[go_sem,hlt,hw,hp,Grp.enc]|apply kh<;>intro qa
  ·rw[QE hp hi qa]
  ·exact⟨(),qv htk hi qa,kl⟩
 ·intro _ hlt hi
  rw[wh]at hi
  repeat' first|(first|refine kcc ?_|apply kU|apply kF);simp only[go_sem,hlt]|apply kh<;>intro qa
  rw[QC hi]
theorem qiq(l:List Grp)(id:Int)(hl:l.length<=1000000):DCalls pP 214 [dv (.sl 4 (l.map Grp.enc)),dv (li id)] (.tup [.agg (qr l id).1.row,dv (lb (qr l id).2)]):=by
 have hx:=idxG_D l id hl
 rcases zg l id with⟨k,g,hk,hi,e⟩|⟨hi,e⟩
 ·rw[hi]at hx
  rw[e]
  have hge:decide ((k:Int)<0)=false:=decide_eq_false (by omega)
  refine kd (N:=17) (rs:=[.cell 4 156,.tmp 5]) Tryz.func214 ?_
  repeat first|apply kA|apply kB|(first|refine kcc ?_|apply kD|apply kE);simp +decide only[go_sem]
  refine CallC.frz 3 [li id] (by simp) (by simp +decide only[go_sem]) ?_
  simp +decide only[go_sem]
  repeat' first|(first|refine kcc ?_|refine kx hx ?_|apply kU);simp +decide only[go_sem,hge,hk,Grp.enc,Grp.row,wB]|apply kh<;>intro qa
  apply kF;simp +decide only[go_sem]
 ·rw[hi]at hx
  rw[e]
  refine kd (N:=17) (rs:=[.cell 4 156,.tmp 5]) Tryz.func214 ?_
  repeat first|apply kA|apply kB|(first|refine kcc ?_|apply kD|apply kE);simp +decide only[go_sem]
  refine CallC.frz 3 [li id] (by simp) (by simp +decide only[go_sem]) ?_
  simp +decide only[go_sem]
  repeat' first|(first|refine kcc ?_|refine kx hx ?_|apply kU);simp +decide only[go_sem]|apply kh<;>intro qa
  refine qdo 4 (by simp +decide only[go_sem];rfl) ?_
  apply kF;simp +decide only[go_sem]
  simp[noGrp,Grp.row]
def GrowG(l:List Grp)(out out':List Int):Prop:=vZ l out'<=vZ l out/\out'.length+vZ l out'<=out.length+vZ l out
theorem GrowG.refl(l:List Grp)(out:List Int):GrowG l out out:=⟨wv _,wv _⟩
theorem GrowG.trans{l:List Grp}{a b c:List Int}(h:GrowG l a b)(k:GrowG l b c):GrowG l a c:=⟨wD k.1 h.1,wD k.2 h.2⟩
theorem qll{l:List Grp}{rec:Int->List Int->List Int}(hr: ∀id out,GrowG l out (rec id out))(out:List Int)(x:Int):GrowG l out (Qc l rec out x):=by
 unfold Qc
 split
 ·rename_i h
  have:=qfp h.1 (inL_false.1 h.2)
  exact GrowG.trans ⟨by omega,by simp;omega⟩ (hr x (out++[x]))
 ·exact GrowG.refl l out
theorem qbA{l:List Grp}{rec:Int->List Int->List Int}(hr: ∀id out,GrowG l out (rec id out)): ∀(xs:List Int) (out:List Int),GrowG l out (xs.foldl (Qc l rec) out)
 | [],out=>GrowG.refl l out
 | x::xs,out=>(qll hr out x).trans (qbA hr xs _)
theorem qdf(l:List Grp): ∀(n:Nat) (id:Int) (out:List Int),GrowG l out (visG l n id out)
 | 0,_,out=>GrowG.refl l out
 | n+1,id,out=>qbA (qdf l n) _ out
theorem qqu{l:List Grp}(hB:GrpB l)(x:Int):(qr l x).1.subs.length<=40:=by
 rcases zg l x with⟨j,g,hj,_,e⟩|⟨_,e⟩
 ·rw[e];exact hB.subs g (wl hj)
 ·rw[e];simp[noGrp]
def vD(l:List Grp)(a b:Nat):List T:=[.c (.pt [.sl 4 (l.map Grp.enc)]),.bx a 1 0 0,.bx b 1 0 0]
def zn(l:List Grp)(out:List Int)(a b:Nat):Mem:=ml [(a,[[.own a 1 (ints out)]]),(b,[[.fv 227 (vD l a b)]])]
theorem qiL{l:List Grp}{out:List Int}{a b:Nat}(hab:a≠b){bx:Mem}(h1:bx (a+NB)=some [[.own (a+NB) 1 (ints out)]])(h2:bx (b+NB)=some [[.fv 227 (vD l (a+NB) (b+NB))]]):
  ∀k r,zn l out (a+NB+NB) (b+NB+NB) k=some r->qJ bx [a+NB,b+NB] k=some r:=fun k r h=>by
 have hba:(b=a)=False:=by simp[Ne.symm hab]
 have hab':(a=b)=False:=by simp[hab]
 by_cases hk:k=a+NB+NB
 ·subst hk
  simp only[go_sem,zn]at h
  simp only[go_sem,qJ,h1]
  exact h
 ·by_cases hk2:k=b+NB+NB
  ·subst hk2
   simp only[go_sem,zn,hba,vD]at h
   simp only[go_sem,qJ,h2,vD]
   exact h
  ·simp only[go_sem,zn,hk,hk2]at h
theorem qhp{l:List Grp}{out:List Int}{bx:Mem}(h1:bx 5=some [[.own 5 1 (ints out)]])(h2:bx 6=some [[.fv 227 (vD l 5 6)]]):
  ∀k r,zn l out (5+NB) (6+NB) k=some r->qJ bx [5,6] k=some r:=fun k r h=>by
 by_cases hk:k=5+NB
 ·subst hk
  simp only[go_sem,zn]at h
  simp only[go_sem,qJ,h1]
  exact h
 ·by_cases hk2:k=6+NB
  ·subst hk2
   simp only[go_sem,zn,vD]at h
   simp only[go_sem,qJ,h2,vD]
   exact h
  ·simp only[go_sem,zn,hk,hk2]at h
theorem nb_z:(NB=0)=False:=eq_false (by have:=qL;omega)
def BlwC(l:List Grp)(rec:Int->List Int->List Int)(a b:Nat)(id:Int)(out:List Int):Prop:=
 ECalls pP 227 [dv (li id),dv (.pt [.sl 4 (l.map Grp.enc)]),.one (.bx (a+NB) 1 0 0),.one (.bx (b+NB) 1 0 0)] (zn l out (a+NB) (b+NB))
   (fun r H'=>r= .tup []/\H'=zn l (rec id out) (a+NB) (b+NB))
theorem qdA(l:List Grp)(hB:GrpB l)(m N:Nat)(ih: ∀a b id out,a≠b->vZ l out<N->out.length+vZ l out<=1000000->BlwC l (visG l m) a b id out)(a b:Nat)(hab:a≠b)(id:Int)(out:List Int)
  (hn:vZ l out<=N) (hb:out.length+vZ l out<=1000000):BlwC l (visG l (m+1)) a b id out:=by
 unfold BlwC
 have hba:(b=a)=False:=by simp[Ne.symm hab]
 have hab':(a=b)=False:=by simp[hab]
 have hlen:=hB.len
 have hlk:=qqu hB id
 have qK:=kmax
 have hg:=qiq l id (by omega)
 have hvis:visG l (m+1) id out=(qr l id).1.subs.foldl (Qc l (visG l m)) out:=rfl
 rw[hvis]
 obtain⟨g,hge⟩: ∃g,g=(qr l id).1:=⟨_,rfl⟩
 rw[<-hge]at hg hlk ⊢
 refine vW (N:=45) (rs:=[]) (by kernel_rfl) Tryz.func227 rfl rfl rfl (by simp) ?_
 repeat first|apply kA|apply kB|(first|refine kcc ?_|apply kD|apply kE);simp +decide only[go_sem,vD,zn]
 (first|refine kx hg ?_);simp +decide only[go_sem,Grp.row]
 repeat first|apply kA|apply kB|(first|refine kcc ?_|apply kD|apply kE);simp +decide only[go_sem]
 refine qj g.subs (fun k=>kn 45 [(1,dv (.pt [.sl 4 (l.map Grp.enc)])),(2,.one (.bx (a+NB) 1 0 0)),(3,.one (.bx (b+NB) 1 0 0)),(18,dv (.sl 1 (ints g.subs))),(19,dv (li g.subs.length)),(20,dv (li k))] (zn l ((g.subs.take k).foldl (Qc l (visG l m)) out) (a+NB) (b+NB))) (by omega) (km (by simp +decide only[go_sem,vD,hba,hab',wg,w9])) ?_ ?_
 ·intro k x hx hk hm htk hlt hw
  have hx':=qp hx
  obtain⟨cur,hcur⟩: ∃cur,cur=(g.subs.take k).foldl (Qc l (visG l m)) out:=⟨_,rfl⟩
  have hnx:(g.subs.take (k+1)).foldl (Qc l (visG l m)) out=Qc l (visG l m) cur x:=by rw[htk,yp,hcur];rfl
  have hgr:GrowG l out cur:=by rw[hcur];exact qbA (qdf l m) _ _
  rw[<-hcur,hnx]
  have hcl:cur.length<=1000000:=by have:=hgr.2;omega
  have hcc:=qrA cur x (by omega)
  have hg2:=qiq l x (by omega)
  cases h3:(qr l x).2
  ·rw[h3]at hg2
   have hst:Qc l (visG l m) cur x=cur:=by unfold Qc;rw[if_neg (fun h=>by rw[h3]at h;cases h.1)]
   rw[hst]
   obtain⟨g2,hge2⟩: ∃g2,g2=(qr l x).1:=⟨_,rfl⟩
   rw[<-hge2]at hg2
   repeat' first|(first|refine kcc ?_|refine kx hg2 ?_|refine kx hcc ?_|apply kU|apply kF);simp +decide only[go_sem,hlt,hw,hx',Grp.row,vD,zn]|apply kh<;>intro qa
   exact km (by simp +decide only[go_sem,hba,hab'])
  cases h2:inL cur x
  rotate_left
  ·rw[h3]at hg2
   rw[h2]at hcc
   have hst:Qc l (visG l m) cur x=cur:=by unfold Qc;rw[if_neg (fun h=>by rw[h2]at h;cases h.2)]
   rw[hst]
   obtain⟨g2,hge2⟩: ∃g2,g2=(qr l x).1:=⟨_,rfl⟩
   rw[<-hge2]at hg2
   repeat' first|(first|refine kcc ?_|refine kx hg2 ?_|refine kx hcc ?_|apply kU|apply kF);simp +decide only[go_sem,hlt,hw,hx',Grp.row,vD,zn,hab']|apply kh<;>intro qa
   exact km (by simp +decide only[go_sem,hba,hab'])
  rw[h3]at hg2
  rw[h2]at hcc
  have hst:Qc l (visG l m) cur x=visG l m x (cur++[x]):=by unfold Qc;rw[if_pos ⟨h3,h2⟩]
  rw[hst]
  have hfs:=qfp h3 (inL_false.1 h2)
  have hfr:=hgr.1
  have hfl:=hgr.2
  have hb8:(cur.length+1)*8<=140737488355328:=by omega
  obtain⟨g2,hge2⟩: ∃g2,g2=(qr l x).1:=⟨_,rfl⟩
  rw[<-hge2]at hg2
  repeat' first|(first|refine kcc ?_|refine kx hg2 ?_|refine kx hcc ?_|apply kU|apply kF);simp +decide only[go_sem,hlt,hx',hb8,Grp.row,vD,zn,hba,hab']|apply kh<;>intro qa
  have hi:=ih (a+NB) (b+NB) x (cur++[x]) (by omega) (by omega) (by simp;omega)
  unfold BlwC at hi
  have hia:ints (cur++[x])=ints cur++[[li x]]:=by simp
  refine CallC.eff [a+NB,b+NB] hi rfl (DLeL.of_eq (by simp +decide only[go_sem])) (qiL hab (by simp +decide only[go_sem,hab',hia]) (by simp +decide only[go_sem,hba,vD])) ⟨fun n hn=>?_,fun n hn=>?_⟩ ?_
  ·simp only[ws,List.not_mem_nil,or_false]at hn
   rcases hn with rfl|rfl<;>exact Qr (Nat.le_add_left _ _)
  ·injection hn with hn;subst hn
   have:=qL
   exact⟨by simp;omega,by omega⟩
  rintro r H' ⟨rfl,rfl⟩
  simp +decide only[go_sem,zn,vD]
  repeat' first|(first|refine kcc ?_|apply kU);simp +decide only[go_sem,hw]|apply kh<;>intro qa
  exact km (by simp +decide only[go_sem,qd,hba,hab',nb_z])
 ·intro hlt
  rw[wh]
  repeat' first|(first|refine kcc ?_|apply kU);simp +decide only[go_sem,hlt,vD,zn]|apply kh<;>intro qa
  rfl
theorem qj5(l:List Grp)(hB:GrpB l): ∀(n:Nat) (a b:Nat) (id:Int) (out:List Int),a≠b->vZ l out<=n->out.length+vZ l out<=1000000->BlwC l (visG l (n+1)) a b id out
 | 0,a,b,id,out,hab,h1,h2=>qdA l hB 0 0 (fun _ _ _ _ _ h _=>absurd h (Nat.not_lt_zero _)) a b hab id out h1 h2
 | n+1,a,b,id,out,hab,h1,h2=>qdA l hB (n+1) (n+1) (fun a b id out hab h1 h2=>qj5 l hB n a b id out hab (by omega) h2) a b hab id out h1 h2
theorem ql1(l:List Grp)(id:Int):(visG l (l.length+1) id []).length<=l.length:=by
 have h:=(qdf l (l.length+1) id []).2
 have h2:vZ l []<=l.length:=List.countP_le_length
 simp at h;omega
theorem qex(l:List Grp)(id:Int):(Q0 l id).length<=l.length:=wD (zq _) (ql1 l id)
theorem qq4(l:List Grp)(id:Int)(hB:GrpB l):DCalls pP 213 [dv (.sl 4 (l.map Grp.enc)),dv (li id)] (dv (.sl 1 (ints (Q0 l id)))):=by
 have hfree:vZ l []<=l.length:=List.countP_le_length
 have hlen:=hB.len
 have hrl:=ql1 l id
 refine kd (N:=13) (rs:=[.tmp 4]) Tryz.func213 ?_
 repeat first|apply kA|apply kB|(first|refine kcc ?_|apply kD|apply kE);simp only[go_sem]
 refine CallC.frz 2 [.sl 4 (l.map Grp.enc)] (by simp) (by simp only[go_sem]) ?_
 simp only[go_sem]
 refine CallC.sub (qcy 5 0 0 5 1 [] (rows:=[[.ex 1 []]]) (r:=[.ex 1 []]) (by simp only[go_sem]) rfl rfl) rfl ?_
 simp only[go_sem]
 have hr:=qj5 l hB l.length 5 6 id [] (by decide) hfree (by simp;omega)
 unfold BlwC at hr
 refine CallC.eff [5,6] hr rfl (DLeL.of_eq (by simp only[go_sem])) (qhp (by simp only[go_sem]) (by simp only[go_sem,vD])) (by constructor<;>simp[mid]) ?_
 rintro r H' ⟨rfl,rfl⟩
 simp only[go_sem,zn,vD]
 repeat' first|(first|refine kcc ?_|refine kx (sorted_D (visG l (l.length+1) id []) (by omega)) ?_|apply kU|apply kF);simp only[go_sem,qd]|apply kh<;>intro qa
 rfl
theorem qk7(l:List Grp)(id:Int)(hB:GrpB l):DCalls pP 197 [dv (.sl 4 (l.map Grp.enc)),dv (li id)] (dv (.sl 1 (ints (vy l id)))):=by
 have qK:=kmax
 have hlen:=hB.len
 have hbl:=qex l id
 have hW:=qq4 l id hB
 refine kd (N:=34) (rs:=[.tmp 4]) Tryz.func197 ?_
 repeat' first|(first|refine kcc ?_|refine kx hW ?_|apply kU);simp +decide only[go_sem]|apply kh<;>intro qa
 refine⟨by omega,?_⟩
 refine zl 5 5 1 (by simp +decide only[go_sem]) ?_
 have hX:vy l id=usort ((id::Q0 l id).flatMap fun x=>(qr l x).1.people):=rfl
 rw[hX]
 have hXi: [li id]::ints (Q0 l id)=ints (id::Q0 l id):=rfl
 rw[hXi]
 have hXl:(id::Q0 l id).length<=21:=by simp;omega
 have hXc:(((Q0 l id).length+1:Nat):Int)=((id::Q0 l id).length:Int):=by simp
 rw[hXc]
 generalize id::Q0 l id=X at*
 apply kB
 refine qj X (fun i=>kn 34 [(0,dv (.sl 4 (l.map Grp.enc))),(5,.one (.own 5 1 (ints ((X.take i).flatMap fun x=>(qr l x).1.people)))),(15,dv (.sl 1 (ints X))),(16,dv (li X.length)),(17,dv (li i))] qc) (by omega) (kL rfl (by simp +decide only[go_sem,wg,List.flatMap_nil,wn]) (by simp[qc])) ?_ ?_
 ·intro i x hx hxm hxk htx Qj hwi
  have hx':=qp hx
  have hF:=qiq l x (by omega)
  have hq:=zz (fun x=>(qr l x).1.people) 1000 (X.take i) fun x _=>qbz hB x
  have hql:(X.take i).length<=21:=by rw[wx];omega
  have hpl:=qbz hB x
  have hst:(X.take (i+1)).flatMap (fun x=>(qr l x).1.people)=(X.take i).flatMap (fun x=>(qr l x).1.people)++(qr l x).1.people:=by rw[htx];simp
  rw[hst]
  generalize (X.take i).flatMap (fun x=>(qr l x).1.people)=q at*
  generalize (qr l x).2=ok at*
  generalize (qr l x).1=g at*
  have hb8:((q.length+g.people.length)*8<=140737488355328)=True:=eq_true (by omega)
  repeat' first|(first|refine kcc ?_|refine kx hF ?_|apply kU);simp +decide only[go_sem,Qj,hwi,hx',hb8,Grp.row]|apply kh<;>intro qa
  exact kL rfl (by simp +decide only[go_sem,wJ]) (by simp[qc])
 ·intro Qj
  rw[wh]
  have hq:=zz (fun x=>(qr l x).1.people) 1000 X fun x _=>qbz hB x
  repeat' first|(first|refine kcc ?_|refine kx (sorted_D (X.flatMap fun x=>(qr l x).1.people) (by omega)) ?_|apply kU|apply kF);simp +decide only[go_sem,Qj]|apply kh<;>intro qa
theorem inG_D(l:List Grp)(id p:Int)(hB:GrpB l):DCalls pP 171 [dv (.sl 4 (l.map Grp.enc)),dv (li id),dv (li p)] (dv (lb (inL (vy l id) p))):=by
 have qK:=kmax
 have hM:=qk7 l id hB
 have hl:(vy l id).length<=21000:=by
  have h1:=zq ((id::Q0 l id).flatMap fun x=>(qr l x).1.people)
  have h2:=zz (fun x=>(qr l x).1.people) 1000 (id::Q0 l id) fun x _=>qbz hB x
  have h3:=qex l id
  have:=hB.len
  simp only[wz]at h2
  unfold vy;omega
 refine kd (N:=12) (rs:=[.tmp 6]) Tryz.func171 ?_
 repeat' first|(first|refine kcc ?_|refine kx hM ?_|refine kx (qrA (vy l id) p (by omega)) ?_|apply kU|apply kF);simp only[go_sem]|apply kh<;>intro qa
theorem mayG_D(a:Rgt)(r:Rle)(p day:Int)(hp:a.people.length<=1000000)(hB:GrpB a.groups)(hr:r.grps.length<=1048576):DCalls pP 136 [dv (.sl 3 (a.people.map Pers.enc)),dv (.sl 4 (a.groups.map Grp.enc)),.agg [.c (li r.lvl),.c (.sl 1 (ints r.grps)),.c (li r.til)],.agg [.c (li p),.c (li day)]] (dv (lb (mayG a r p day))):=by
 have qK:=kmax
 have hP:=qjt a.people p hp
 simp only[Pers.row]at hP
 unfold mayG
 refine kd (N:=51) (rs:=[.tmp 8]) Tryz.func136 ?_
 by_cases h1:day<r.til
 ·have h1':decide (day<r.til)=true:=by simpa using h1
  repeat' first|(first|refine kcc ?_|apply kU|apply kF);simp only[go_sem,h1']|apply kh<;>intro qa
  rw[if_pos h1]
 have h1':decide (day<r.til)=false:=by simpa using h1
 rw[if_neg h1]
 by_cases h4:r.lvl=2
 ·have h4':(r.lvl==2)=true:=by simpa using h4
  rw[if_pos h4]
  repeat' first|(first|refine kcc ?_|apply kU);simp only[go_sem,h1',h4']|apply kh<;>intro qa
  refine qC r.grps (fun k=>kn 51 [(1,dv (.sl 4 (a.groups.map Grp.enc))),(7,.one (.bx 7 2 0 0)),(27,dv (.sl 1 (ints r.grps))),(28,dv (li r.grps.length)),(29,dv (li k))] (ml [(7,[[.c (li p),.c (li day)]])])) (fun k=>∀g∈r.grps.take k,inL (vy a.groups g) p=false) (by omega) (kmm) (by simp) ?_ ?_
  ·intro k g hk hm hkk htk hlt hw hi
   have hk':=qp hk
   have hI:=inG_D a.groups g p hB
   cases c:inL (vy a.groups g) p<;>rw[c]at hI
   ·repeat' first|(first|refine kcc ?_|refine kx hI ?_|apply kU);simp only[go_sem,hlt,hw,hk']|apply kh<;>intro qa
    refine⟨fun x hx=>?_,kmm⟩
    rw[htk]at hx
    rcases wo.1 hx with hx|hx
    ·exact hi x hx
    ·simp at hx;rw[hx];exact c
   ·repeat' first|(first|refine kcc ?_|refine kx hI ?_|apply kU|apply kF);simp only[go_sem,hlt,hk']|apply kh<;>intro qa
    have:r.grps.any (fun g=>inL (vy a.groups g) p)=true:=yo.2 ⟨g,wl hk,c⟩
    rw[this]
  ·intro hlt hi
   rw[wh]at hi
   repeat' first|(first|refine kcc ?_|apply kU|apply kF);simp only[go_sem,hlt]|apply kh<;>intro qa
   have:r.grps.any (fun g=>inL (vy a.groups g) p)=false:=jb.2 fun g hg=>by rw[hi g hg];simp
   rw[this]
 have h4':(r.lvl==2)=false:=by simpa using h4
 rw[if_neg h4]
 by_cases h3:r.lvl=3
 ·have h3':(r.lvl==3)=true:=by simpa using h3
  repeat' first|(first|refine kcc ?_|apply kU|apply kF);simp only[go_sem,h1',h4',h3']|apply kh<;>intro qa
  rw[if_pos h3]
 have h3':(r.lvl==3)=false:=by simpa using h3
 rw[if_neg h3]
 by_cases h5:r.lvl=1
 rotate_left
 ·have h5':(r.lvl==1)=false:=by simpa using h5
  repeat' first|(first|refine kcc ?_|apply kU|apply kF);simp only[go_sem,h1',h4',h3',h5']|apply kh<;>intro qa
  rw[if_neg h5]
 have h5':(r.lvl==1)=true:=by simpa using h5
 rw[if_pos h5]
 unfold memE
 generalize vH a.people p=pp at*
 obtain⟨q,ok⟩:=pp
 cases ok
 ·repeat' first|(first|refine kcc ?_|refine kx hP ?_|apply kU|apply kF);simp only[go_sem,h1',h4',h3',h5']|apply kh<;>intro qa
 ·repeat' first|(first|refine kcc ?_|refine kx hP ?_|apply kU|apply kF);simp only[go_sem,h1',h4',h3',h5']|apply kh<;>intro qa
theorem mayA_D(a:Rgt)(r:Rle)(p day:Int)(hp:a.people.length<=1000000)(hB:GrpB a.groups)(hr:r.grps.length<=1048576):DCalls pP 68 [.agg a.row,.agg [.c (li r.lvl),.c (.sl 1 (ints r.grps)),.c (li r.til)],.agg [.c (li p),.c (li day)]] (dv (lb (mayG a r p day))):=by
 have hM:=mayG_D a r p day hp hB hr
 refine kd (N:=16) (rs:=[.tmp 6]) Tryz.func68 ?_
 repeat' first|(first|refine kcc ?_|refine kx hM ?_|apply kU|apply kF);simp only[go_sem,Rgt.row]|apply kh<;>intro qa
theorem qnv(a:Rgt)(p:Int)(hp:a.people.length<=1000000):DCalls pP 135 [.agg a.row,dv (li p)] (dv (lb (memE a.people p))):=by
 have hP:=qjt a.people p hp
 unfold memE
 generalize vH a.people p=pp at*
 obtain⟨q,ok⟩:=pp
 simp only[Pers.row]at hP
 refine kd (N:=20) (rs:=[.tmp 4]) Tryz.func135 ?_
 cases ok
 ·repeat' first|(first|refine kcc ?_|refine kx hP ?_|apply kU|apply kF);simp only[go_sem,Rgt.row]|apply kh<;>intro qa
 ·repeat' first|(first|refine kcc ?_|refine kx hP ?_|apply kU|apply kF);simp only[go_sem,Rgt.row]|apply kh<;>intro qa
end Go.Proofs.YtaaodllggdjhiaaGreatDoor
namespace Go.Proofs.YtaaodllggdjhiaaGreatDoor
open Go.Dl
theorem qgH{α:Type}(lt:α->α->Bool)(l:List α)(x:α):insB lt (l++[x])=qU (fun y=>lt x y) (insB lt l) x:=by
 unfold insB;rw[yp];rfl
theorem qjM{α:Type}(lt:α->α->Bool)(l:List α):insB lt (l.take 1)++l.drop 1=l:=by
 cases l with
 | nil=>rfl
 | cons a l=>simp[insB,qU,q9]
end Go.Proofs.YtaaodllggdjhiaaGreatDoor
namespace Go.Proofs.YtaaodllggdjhiaaGreatDoor
abbrev kpm30:List (Nat×Go.Dl.Mode):=[(0,.light),(1,.light),(2,.light),(3,.light),(4,.light),(5,.light),(6,.light),(7,.light),(8,.light),(9,.light),(10,.light),(11,.light),(12,.light),(13,.light),(14,.step),(15,.light),(16,.light)]
abbrev kpm31:List (Nat×Go.Dl.Mode):=[(2,.blind),(3,.blind),(4,.blind),(0,.light),(1,.light),(5,.light),(6,.light),(7,.light),(8,.light),(9,.light),(10,.light),(11,.light),(12,.light),(13,.light),(14,.light),(15,.step),(16,.light),(17,.step)]
abbrev kq31:Nat->List (Nat×Go.Dl.Mode):=fun n=>match n with|4=>kpm30|6=>kpm31|_=>[]
end Go.Proofs.YtaaodllggdjhiaaGreatDoor
namespace Go.Proofs.YtaaodllggdjhiaaGreatDoor
open Go.Dl
attribute [local irreducible] DW DCalls ECalls qo wk IW
theorem insS_E(lt:Spn->Spn->Bool)(c:Spn->Spn->Int)(hlt: ∀a b,lt a b=decide (c a b<0))(f:Nat)(hf: ∀a b:Spn,DCalls pP f [.agg a.row,.agg b.row] (dv (li (c a b))))(xs:List Spn)(j q:Nat)(hq:NB<=q)(hl:xs.length<=1000000):
  ECalls pP 182 [.one (.ba q 2 0 xs.length (xs.length+j)),dv (li 0),dv (li xs.length),dv (.fn f [])] (ml [(q,cr (xs.map Spn.enc)++qb j 2)])
   (fun r H'=>r= .tup []/\H'=ml [(q,cr ((insB lt xs).map Spn.enc)++qb j 2)]):=by
 have qK:=kmax
 have h64: ∀z:Int,-1<=z->z<=10000000->IntKind.wrap .i64 z=z:=fun z h1 h2=>wrap_i64 (by omega) (by omega)
 have hsh: ∀x:Spn,x.enc.map T.c=x.row:=fun _=>rfl
 have hw0:IntKind.wrap .i64 1=1:=by decide
 refine vW (N:=53) (rs:=[]) (by kernel_rfl) Tryz.func182 rfl rfl rfl (by simp) ?_
 repeat' first|(first|refine kcc ?_|refine kjj kq31 ?_|apply kU);simp +decide only[go_sem,hw0]|apply kh<;>intro qa
 refine qk (fun i:Nat=>kn 53 [(0,.one (.ba q 2 0 xs.length (xs.length+j))),(1,dv (li 0)),(2,dv (li xs.length)),(3,dv (.fn f [])),(8,dv (li i))] (ml [(q,cr ((insB lt (xs.take i)++xs.drop i).map Spn.enc)++qb j 2)]))
  (fun i=>1<=i/\(i<=xs.length\/i=1)) (fun i=>xs.length - i) 1 (km (by simp +decide only[go_sem,qjM])) ⟨by omega,.inr rfl⟩ ?_
 rintro i ⟨hi1,hi⟩
 cases t1:decide ((i:Int)<(xs.length:Int))
 ·have hge:xs.length<=i:=by simpa using t1
  rw[wO hge,List.drop_eq_nil_of_le hge,wM]
  repeat' first|(first|refine kcc ?_|refine kjj kq31 ?_|apply kU);simp +decide only[go_sem,t1]|apply kh<;>intro qa
  rfl
 have hil:i<xs.length:=by simpa using t1
 repeat' first|(first|refine kcc ?_|refine kjj kq31 ?_|apply kU);simp +decide only[go_sem,t1]|apply kh<;>intro qa
 obtain⟨x,hx⟩: ∃x,xs[i]? =some x:=⟨_,wc hil⟩
 have hdr:xs.drop i=x::xs.drop (i+1):=by
  rw[wL hil];congr 1
  rw[wc hil]at hx;injection hx
 have hnx:insB lt (xs.take (i+1))++xs.drop (i+1)=qU (fun y=>lt x y) (insB lt (xs.take i)) x++xs.drop (i+1):=by
  rw[qH hx,qgH]
 have hSl:(insB lt (xs.take i)).length=i:=by rw[(zI lt _).length_eq,wx];omega
 rw[hdr]
 generalize hS:insB lt (xs.take i)=S at*
 generalize hR:xs.drop (i+1)=R at*
 have hRl:R.length=xs.length - (i+1):=by rw[<-hR];simp
 refine qk (fun k:Nat=>kn 53 [(0,.one (.ba q 2 0 xs.length (xs.length+j))),(1,dv (li 0)),(2,dv (li xs.length)),(3,dv (.fn f [])),(8,dv (li i)),(9,dv (li k))] (ml [(q,cr ((S.take k++x::(S.drop k++R)).map Spn.enc)++qb j 2)]))
  (fun k=>k<=i/\q9 (fun y=>lt x y) S S.length=q9 (fun y=>lt x y) S k) (fun k=>k) i (km (by simp +decide only[go_sem,<-hSl,wh,jE,wE])) ⟨wv _,by rw[hSl]⟩ ?_
 rintro k ⟨hk,hbk⟩
 have hwi:IntKind.wrap .i64 ((i:Int)+1)=((i+1:Nat):Int):=by rw[h64 _ (by omega) (by omega)];omega
 cases k with
 | zero=>
  have h0:decide (((0:Nat):Int)>0)=false:=rfl
  have hpb:qU (fun y=>lt x y) S x++R=x::(S++R):=by
   unfold qU;rw[hbk];simp[q9]
  repeat' first|(first|refine kcc ?_|refine kjj kq31 ?_|apply kU);simp +decide only[go_sem,hwi]|apply kh<;>intro qa
  refine⟨i+1,⟨by omega,.inl (by omega)⟩,by omega,km (by simp +decide only[go_sem,hnx,hpb,hR])⟩
 | succ m=>
  obtain⟨y,hy⟩: ∃y,S[m]? =some y:=⟨_,wc (by omega)⟩
  have hml:m<S.length:=by omega
  have htk:S.take (m+1)=S.take m++[y]:=qH hy
  have hdk:S.drop m=y::S.drop (m+1):=by
   rw[wL hml];congr 1
   rw[wc hml]at hy;injection hy
  have hZl:(S.take m).length=m:=by rw[wx];omega
  have hz1:(cr ((S.take (m+1)++x::(S.drop (m+1)++R)).map Spn.enc)++qb j 2)[m+1]? =some x.row:=by
   rw[qhf (x:=x.enc) (by rw[wq,wG (by rw[wx];omega),wx,Nat.min_eq_left (by omega)];simp),hsh]
  have hz2:(cr ((S.take (m+1)++x::(S.drop (m+1)++R)).map Spn.enc)++qb j 2)[m]? =some y.row:=by
   rw[qhf (x:=y.enc) (by rw[wq,htk,wU,wG (by omega),hZl];simp),hsh]
  have hw1:IntKind.wrap .i64 (((m+1:Nat):Int) - 1)=(m:Int):=by rw[h64 _ (by omega) (by omega)];omega
  have hgt:decide ((0:Int)<((m+1:Nat):Int))=true:=decide_eq_true (by omega)
  have hml2:m<xs.length:=by omega
  have hml1:m+1<xs.length:=by omega
  have hc:=hf x y
  have hcl:=hlt x y
  generalize c x y=cv at hc hcl
  cases t2:decide (cv<0)
  ·have hq2:lt x y=false:=by rw[hcl,t2]
   have hpb:qU (fun y=>lt x y) S x++R=S.take (m+1)++x::(S.drop (m+1)++R):=by
    have hb:q9 (fun y=>lt x y) S (m+1)=m+1:=by simp only[q9,hy];rw[if_neg (by rw[hq2];simp)]
    unfold qU;rw[hbk,hb];simp
   repeat' first|(first|refine kcc ?_|refine kjj kq31 ?_|refine kx hc ?_|apply kU);simp +decide only[go_sem,hgt,hw1,hz1,hz2,hml1,hml2,t2,hwi,wB,Spn.row]|apply kh<;>intro qa
   exact⟨i+1,⟨by omega,.inl (by omega)⟩,by omega,km (by simp +decide only[go_sem,hnx,hpb,hR])⟩
  ·have hq2:lt x y=true:=by rw[hcl,t2]
   have hb:q9 (fun y=>lt x y) S (m+1)=q9 (fun y=>lt x y) S m:=by simp only[q9,hy];rw[if_pos hq2]
   have Qu:((cr ((S.take (m+1)++x::(S.drop (m+1)++R)).map Spn.enc)++qb j 2).set (m+1) y.row).set m x.row=cr ((S.take m++x::(S.drop m++R)).map Spn.enc)++qb j 2:=by
    have hLl:(S.take (m+1)++x::(S.drop (m+1)++R)).length=S.length+1+R.length:=by simp;omega
    rw[<-hsh x,<-hsh y,qes (by rw[we,hLl];omega),qes (by rw[List.length_set,we,hLl];omega),<-yZ,<-yZ]
    congr 3
    rw[htk,hdk]
    simp[hZl]
   have hz3:(List.set (cr ((S.take (m+1)++x::(S.drop (m+1)++R)).map Spn.enc)++qb j 2) (m+1) y.row)[m]? =some y.row:=by rw[List.getElem?_set_ne (by omega)];exact hz2
   simp only[Spn.row]at hz1 hz2 hz3 Qu hc
   repeat' first|(first|refine kcc ?_|refine kjj kq31 ?_|refine kx hc ?_|apply kU);simp +decide only[go_sem,hgt,hw1,hz1,hz2,hml1,hml2,t2,wB,hz3,Qu]|apply kh<;>intro qa
   exact⟨m,⟨by omega,by rw[hbk,hb]⟩,by omega,kmm⟩
end Go.Proofs.YtaaodllggdjhiaaGreatDoor
