/- Contracts of the functions that the law reaches; part 7. -/
import Derived.RecoverIn
import Derived.Maps.OwnIn
import Derived.Maps.GroupsBeside
import Derived.Shelf.SlSortCmp.WholeK
import Derived.Test.YtobpcppcjdnkmaaGreatm5
set_option linter.all false
set_option maxRecDepth 10000
set_option maxHeartbeats 8000000
open Array renaming replicate → yg
open Go renaming World → j5, Value → j6, TypeId → j8
open Go.Fence renaming wide → ya
open Go.IntKind renaming wrap → aD
open Go.Lib renaming cell_of_heap → yB
open Go.Proofs.Tryz renaming prog → pP
open Go.Sem renaming run_bind → wq
open Go.World renaming alloc_heap_new → jg
open List renaming range → wR
open Go.Dl.CallC renaming mk → kN, light → kO
open Go.Dl.LeL renaming of_eq → kP
noncomputable section
namespace Go.Proofs.YtobpcppcjdnkmaaGreat
open Go.Proofs.Tryz
open Go.Dl Go.RowKit
def He(e:Int)(w:j5):Calls pP 30 #[.int .i64 e] w fun en w'=>w'=w/\en=if e=0 then .returned (.tuple #[])else .panicked [{ v:=.iface 96 (.agg #[.int .i64 e]),recovered:=false }]:=by
 by_cases h:e=0
 ·subst h
  go_enter func30,ntmps30
  go_wp2
  go_end0
  exact⟨rfl,rfl⟩
 ·go_enter func30,ntmps30
  go_wp2;exact⟨rfl,rfl,by simp[h]⟩
theorem Nz(w:j5):(Instr.typeAssert .nilIface 20 96 true).run pP w= .ok (.tuple #[.agg #[.int .i64 0],.bool false]) w:=om
theorem Xi(e:Int)(w:j5):(Instr.typeAssert (.iface 96 (.agg #[.int .i64 e])) 20 96 true).run pP w= .ok (.tuple #[.agg #[.int .i64 e],.bool true]) w:=om
def Ih(p q:Addr)(w:j5):
  CallsDIn ya 0 pP 28 #[.pointer (some p),.pointer (some q)] .returning w fun e u' w'=>e= .returned (.tuple #[])/\u'= .returning/\Below w.heap.size w w':=by
 refine callsDIn_of_wpSIn func28 rfl (by simp[ya]) fun c₀ cs hu=>?_;apply wpSIn_seq;apply wpSIn_region;simp[wpOpsSIn,go_sem,recoverD,hu,ntmps28,Exit.thenS,Nz,Xi];refine wpSIn_of_wpIn rfl ?_
 gi_wp2
 exact⟨rfl,.returning,by cases c₀;simp_all,_,by simp[results,Tryz.results28],rfl,rfl,(Below.refl _ _).alloc (wl _) _⟩
abbrev bY:List T:=[.c (li 0),.c (ls ⟨#[]⟩),.c (li 0),.c (li 0),.ex 1 [],.ex 4 [],.ex 7 []]
def Ww{X1:Origin}{s:DS}{E:Env}{a:Act}{w:j5}(h:RelE X1 s E a w){p q:Nat}(hp: ¬mid p)(hq: ¬mid q)(hpq:p≠q){r r':List T}(h1:s.bx p=some [r])(hr:r.length=7)(h2:s.bx q=some [r'])(hr':r'.length=1)(e:Int):
  CallsDIn ya 0 pP 28 #[.pointer (some ⟨E.ρ p,0,none⟩),.pointer (some ⟨E.ρ q,0,none⟩)] (.panicking [{ v:=.iface 96 (.agg #[.int .i64 e]),recovered:=false }]) w fun en u' w'=>
   en= .returned (.tuple #[])/\u'= .panicking [{ v:=.iface 96 (.agg #[.int .i64 e]),recovered:=true }]/\
   ∃H':vT,Z1 X1 (s.aftCall [p,q] none (.tup []) H') a w'/\H' (p+NB)=some [bY]/\H' (q+NB)=some [[.c (li e)]]:=by
 have Rh:=qX;refine callsDIn_of_wpSIn func28 rfl (by simp[ya]) fun c₀ cs hu=>?_;apply wpSIn_seq;apply wpSIn_region;simp[wpOpsSIn,go_sem,recoverD,hu,ntmps28,Exit.thenS,Nz,Xi];apply wpSIn_seq;apply wpSIn_region;simp[wpOpsSIn,go_sem,Exit.thenS];refine wpSIn_cond (t:=true) (by simp[Act.eval,yg]) ?_;simp only[an];refine wpSIn_of_wpIn rfl ?_;have hns: ∀n∈ [p,q],¬mid n:=by simp[hp,hq]
 have aM:=BC h.wi [p,q] hns;have h0:RelE ⟨w,E.K,iM s.bx E [p,q],(vH E [p,q]).ρ,NB,none,w.heap.size,[]⟩ { n:=13,sl:=fun _=>.any,bx:=vf s.bx [p,q] } (vH E [p,q]) { tmps:=yg 13 undef,defers:=[] } w:=
  ⟨aM,fun t=>.any _,oh,DefOK.nil _ _ (wl _),⟨by show 13<=NB;omega,wl _⟩,fun _=>rfl⟩
 have k1:=(h0.newBx 2 (by show 2<13;decide) #[.int .i64 e] 96 [.c (li e)] rfl (fun j t v g1 g2=>by
  cases j with
  | zero=>simp at g1 g2;subst g1;subst g2;exact .c _ _ (.lit _ rfl)
  | succ j=>simp at g1)).wi
 have lY: ¬p+NB=2:=oa;have LH: ¬q+NB=2:=oa;have LI: ¬p+NB=q+NB:=oa;have HE: ¬q+NB=p+NB:=oa;obtain⟨b1,cq,F7⟩: ∃b,(({ n:=13,sl:=fun _=>.any,bx:=vf s.bx [p,q] }:DS).newBx 2 [.c (li e)]).bx (p+NB)=some [b]/\b.length=7:=⟨_,by simp[mQ,lY,vf,h1,Rows.tr];rfl,by simp[T.trAll_eq,hr]⟩;obtain⟨b2,fz,ga⟩: ∃b,(({ n:=13,sl:=fun _=>.any,bx:=vf s.bx [p,q] }:DS).newBx 2 [.c (li e)]).bx (q+NB)=some [b]/\b.length=1:=⟨_,by simp[mQ,LH,vf,h2,Rows.tr];rfl,by simp[T.trAll_eq,hr']⟩;have Bc:(({ n:=13,sl:=fun _=>.any,bx:=vf s.bx [p,q] }:DS).newBx 2 [.c (li e)]).bx 2=some [[.c (li e)]]:=by simp[mQ,Rows.tr,T.trAll,T.tr]
 obtain⟨x0,x1,x2,x3,x4,x5,x6,rfl⟩: ∃x0 x1 x2 x3 x4 x5 x6,b1= [x0,x1,x2,x3,x4,x5,x6]:=by
  match b1,F7 with
  | [x0,x1,x2,x3,x4,x5,x6],_=>exact⟨x0,x1,x2,x3,x4,x5,x6,rfl⟩
 obtain⟨y,rfl⟩: ∃y,b2= [y]:=by
  match b2,ga with
  | [y],_=>exact⟨y,rfl⟩
 obtain⟨TM,hTM,z0,z1,z2,z3⟩: ∃TM:Array j6,TM= #[Value.pointer (some { block:=E.ρ p,off:=0 }),Value.pointer (some { block:=E.ρ q,off:=0 })]++
     ((((((((yg 11 undef).setIfInBounds 3 (Value.iface 96 (Value.agg #[Value.int IntKind.i64 e]))).setIfInBounds 4 (Value.tuple #[Value.agg #[Value.int IntKind.i64 e],Value.bool true])).setIfInBounds 2 (Value.tuple #[Value.agg #[Value.int IntKind.i64 e],Value.bool true])).setIfInBounds
              5 (Value.agg #[Value.int IntKind.i64 e])).setIfInBounds 6 (Value.bool true)).setIfInBounds 0 (Value.pointer (some { block:=w.heap.size,off:=0 }))).setIfInBounds 1 (Value.bool true)).setIfInBounds 7 (Value.bool true)/\
   TM.size=13/\TM.getD 0 undef= .pointer (some ⟨E.ρ p,0,none⟩)/\TM.getD 1 undef= .pointer (some ⟨E.ρ q,0,none⟩)/\TM.getD 2 undef= .pointer (some ⟨w.heap.size,0,none⟩):=
  ⟨_,rfl,oh,oF,oF,oF⟩
 rw[<-hTM];have ρp:((vH E [p,q]).setρ 2 w.heap.size).ρ (p+NB)=E.ρ p:=by simp[Env.setρ,vH,lY]
 have ρq:((vH E [p,q]).setρ 2 w.heap.size).ρ (q+NB)=E.ρ q:=by simp[Env.setρ,vH,LH]
 have ρ2:((vH E [p,q]).setρ 2 w.heap.size).ρ 2=w.heap.size:=by simp[Env.setρ]
 obtain⟨P,hP⟩: ∃P,P=p+NB:=⟨_,rfl⟩;obtain⟨Q,hQ⟩: ∃Q,Q=q+NB:=⟨_,rfl⟩;rw[<-hP]at ρp cq lY LI HE;rw[<-hQ]at ρq fz LH LI HE;rw[<-hP,<-hQ];have LI:=aC LI;have HE:=aC HE;have lY:=aC lY;have LH:=aC LH;have k2:=RelE.mk (s:=kn 13 [(0,.one (.bx P 7 0 0)),(1,.one (.bx Q 1 0 0)),(2,.one (.bx 2 1 0 0))] (fun k=>if k=2 then some [[.c (li e)]]else if k=P then some [[x0,x1,x2,x3,x4,x5,x6]]else if k=Q then some [[y]]else none)) (a:={ tmps:=TM,defers:=[] })
  (k1.less fun k r hk=>by
   simp only[EN]at hk;split at hk
   ·rename_i e;rw[e,Bc];exact hk
   split at hk
   ·rename_i e;rw[e,cq];exact hk
   split at hk
   ·rename_i e;rw[e,fz];exact hk
   ·cases hk)
  (fun t=>by
   match t with
   | 0=>rw[z1];have:=VT.bx (w:=w.alloc (Obj.cells #[Value.int IntKind.i64 e] 96)) (E:=(vH E [p,q]).setρ 2 w.heap.size) P 7 0 0;rw[ρp]at this;exact .one _ _ this
   | 1=>rw[z2];have:=VT.bx (w:=w.alloc (Obj.cells #[Value.int IntKind.i64 e] 96)) (E:=(vH E [p,q]).setρ 2 w.heap.size) Q 1 0 0;rw[ρq]at this;exact .one _ _ this
   | 2=>rw[z3];have:=VT.bx (w:=w.alloc (Obj.cells #[Value.int IntKind.i64 e] 96)) (E:=(vH E [p,q]).setρ 2 w.heap.size) 2 1 0 0;rw[ρ2]at this;exact .one _ _ this
   | t+3=>exact .any _) z0 (DefOK.nil _ _ (wl _)) ⟨by show 13<=NB;omega,wl _⟩ (fun _=>rfl)
 have k3:=k2.frz (n:=2) (sz:=1) oo (cs:=[[li e]]) (js:=[]) rfl oh;obtain⟨u,hu⟩: ∃u:T->T,u=T.frz 2 1 [[li e]]:=⟨_,rfl⟩;refine wpIn_mono (wpIn_wide.2 (Tw 13 [[],[],[1],[0,0],[2,3,0,1,2,3]] 31 (C8 13 [(0,.one (.bx P 7 0 0)),(1,.one (.bx Q 1 0 0)),(2,.one (.c (.pt [li e])))] [(0,10,.agg bY),(1,11,.one (.c (.pt [li e]))),(2,12,dv (li e))] (fun m k=>if k=P then some [if m.testBit 3 then bY else [u x0,u x1,u x2,u x3,u x4,u x5,u x6]]else if k=Q then some [[if m.testBit 4 then .c (li e)else u y]]else none)) ?_ ?_ ?_ ?_ k3 rfl ?_ (fun _=>rfl) ?_)) ?_
 ·kernel_rfl
 ·rfl
 ·kernel_rfl
 ·rfl
 ·exact vU rfl (by simp +decide only[go_sem,C8,wo,wm,wD,wI,Ro,D.frz,T.frz,lY,LH,Nat.zero_testBit,yq]) (fun k r h=>by
   simp only[Rq,EN,Nat.zero_testBit,yq,ap]at h ⊢;split at h
   ·rename_i e;injection h with h;subst h;rw[e,j7 (by simp[lY]),j7 (by simp[lY]),ae rfl,hu];rfl
   split at h
   ·rename_i e3 e;injection h with h;subst h;rw[e,j7 (by simp[LH]),j7 (by simp[LH]),j7 (by simp[HE]),ae rfl,hu];rfl
   ·cases h)
 ·refine⟨?_,?_,?_,?_,?_,trivial⟩;all_goals(intro m bO QG Aa)
  all_goals(simp only[ji,yS,yk,yJ,List.forall_mem_cons,w9,false_implies,implies_true,and_true]at Aa)
  all_goals simp +decide only[go_sem,C8,wo,wm,wD,wI,Aa,bO,LI,HE,bY,show Program.fieldOff pP 96 0=some 0 from rfl]
  iterate 3
   focus
    exact vU rfl (by simp +decide only[go_sem,vx,bO,Aa,yu,yX]) (fun k r h=>by simp +decide only[go_sem,vx,yu]at h ⊢;exact h)
  ·exact vU rfl (by simp +decide only[go_sem,vx,bO,Aa,yu,yX]) (fun k r h=>by
    simp +decide only[go_sem,vx,yu,yX]at h ⊢;split at h
    ·rename_i e;rw[ae e];exact h
    ·rename_i e;rw[j7 e,j7 e];exact h)
  ·exact vU rfl (by simp +decide only[go_sem,vx,bO,Aa,yu,yX]) (fun k r h=>by
    simp +decide only[go_sem,vx,Aa,yu,yX]at h ⊢;split at h
    ·rename_i e;subst e;rw[j7 (by simp[LI]),ae rfl];exact h
    ·rename_i e;rw[j7 e] ;split at h
     ·rename_i e2;rw[ae e2];exact h
     ·cases h)
 ·rintro e' a' w' ⟨rfl,hd',F,hF⟩;have hz:=IQ (m:=none) (r:=.tup []) (v:=.tuple #[]) h hF.wi ⟨hns,oh⟩ oh (.tup [] #[] rfl (fun j d v h1 _=>by simp at h1));exact⟨hd',_,rfl,.tuple #[],by simp[results,Tryz.results28],rfl,rfl,_,hz,by simp[C8,EN,(by decide:Nat.testBit 31 3=true)],by simp[C8,EN,HE,(by decide:Nat.testBit 31 4=true)]⟩
end Go.Proofs.YtobpcppcjdnkmaaGreat
namespace Go.Dl
open Go.RowKit
def WI.based{X:Origin}{w:j5}{E:Env}{bx:vT}(h:WI X w E bx)(b:List Deferred):WI { X with base:=b } w E bx:=⟨h.turn,h.sep,h.kin,h.kold,h.kok,h.boxes,h.boxne,h.free,h.disj,h.sbox,h.fix⟩
def L3{X:Origin}{s:DS}{E:Env}{a:Act}{w:j5}(h:RelE X s E a w)(ns:List Nat)(hns: ∀n∈ns,¬mid n)(bs:List Deferred)(hN:s.n<=NB):
  RelE ⟨w,E.K,iM s.bx E ns,(vH E ns).ρ,NB,none,w.heap.size,bs⟩ { n:=s.n,sl:=fun t=>(s.sl t).tr (Km ns),bx:=vf s.bx ns } (vH E ns) { a with defers:=bs } w:=
 ⟨(BC h.wi ns hns).based bs,fun t=>(h.sl t).tr (rr E ns),h.size,DefOK.nil _ _ (wl _),⟨hN,wl _⟩,fun _=>rfl⟩
end Go.Dl
namespace Go.Proofs.YtobpcppcjdnkmaaGreat
open Go.Proofs.Tryz
open Go.Dl Go.RowKit
variable {w:j5}{base k:Nat}{e:j8}{v:j6}{n:Nte}{P:Program}{a:List Prt}{l:List Spn}{o:Oper}{x:Operand}{nx:Int}{g:List Phon}{s:Spn}{d:Dcm}
def H5{f:FuncId}{fn:Func}{ds:List D}{N i0 i1 cl x y:Nat}{l0:List Oper}{oc od:Oper}{rest:Code}{S1 S2:DS}{r:D}{Q:Exit->DS->Prop}{vy:Array j8}(ns:List Nat)
  (hp:Program.plainF pP f=true) (hf:pP.funcs[f]? =some fn) (hb:fn.body=some (.seq (.region i0 l0.toArray false) (.seq (.region i1 #[oc,od] false) rest))) (hN:fn.ntmps=N) (hn:ds.length<=N/\N<=100000)
  (hs:(l0.all fH&&zM l0 N&& [oc].all fH&&zM [oc] N)=true) (h0:wk pP (l0.map (·.dst)) (bq l0) (zZ N ds qA) fun s=>s.Sub S1) (h1:wk pP ([oc,od].map (·.dst)) (bq [oc]) S1 fun s=>s.Sub S2) (hS1:S1.n=N) (hS2:S2.n=N)
  (hod:od={ dst:=none,op:=.defer { callee:=.value (.tmp cl),args:= #[],argTypes:=vy },type:=od.type,pos:=od.pos,after:=od.after,guard:=none }) (QG:S2.sl cl= .one (.fv 28 [.bx x 7 0 0,.bx y 1 0 0])) (hns: ∀n∈ns,¬mid n) (Vz:x≠y/\x∈ns/\y∈ns)
  (aE:DW pP rest { n:=N,sl:=fun t=>(S2.sl t).tr (Km ns),bx:=vf S2.bx ns } Q) (hr: ∀R:Ren,r.tr R=r)
  (hQ: ∀e s',Q e s'->((e= .ret\/e= .normal)/\Zs pP s' fn.results.toList=some r)\/∃c,e= .panic [{ v:=.iface 96 (.agg #[.int .i64 c]),recovered:=false }]/\∃ra rb,s'.bx (x+NB)=some [ra]/\ra.length=7/\s'.bx (y+NB)=some [rb]/\rb.length=1/\
   ∀H':vT,H' (x+NB+NB)=some [bY]->H' (y+NB+NB)=some [[.c (li c)]]->Zs pP (s'.aftCall [x+NB,y+NB] none (.tup []) H') fn.results.toList=some r):DCalls pP f ds r:=by
 have Rh:=qX;simp only[we]at hs;obtain⟨⟨⟨g0,g1⟩,g2⟩,g3⟩:=hs;refine ECalls.pure ⟨hp,fun w E F vs aM hl hv=>?_⟩;refine callsIn_wide (n:=0) |>.1 (callsIn_of_wp_marks hf hb trivial ?_)
 have hrel:Z1 ⟨w,E.K,F,E.ρ,NB,none,w.heap.size,[]⟩ (zZ N ds qA) { tmps:=vs++yg (fn.ntmps - vs.size) undef,defers:=[] } w:=by
  refine⟨E,⟨aM,fun t=>?_,?_,DefOK.nil _ _ (wl _),⟨wu hn.2 Rh,wl _⟩,fun _=>rfl⟩⟩
  ·simp only[zZ];by_cases ht:t<ds.length
   ·have h1:ds[t]? =some (ds.getD t .any):=by simp[List.getD,ht]
    have h2:vs[t]? =some (vs[t]' oa):=wY oa;have h3:(vs++yg (fn.ntmps - vs.size) undef).getD t undef=vs[t]' oa:=by have:t<vs.size:=oa;simp[jP,this]
    simp only[h3];exact hv t _ _ h1 h2
   ·have:ds.getD t .any= .any:=by simp[List.getD,jc (Nat.le_of_not_lt ht)]
    rw[this];exact .any _
  ·simp[zZ];omega
 obtain⟨X0,hX0⟩: ∃X0:Origin,X0=⟨w,E.K,F,E.ρ,NB,none,w.heap.size,[]⟩:=⟨_,rfl⟩;rw[<-hX0]at hrel ⊢;have lE:X0.ro=none:=by rw[hX0]
 have hB:NB<=X0.B:=by rw[hX0];exact wl _
 have PK:rd X0.ro=ya:=by rw[lE];rfl
 have VF: ∀{Q':Exit->Act->j5->Prop},(∀s a w,s.Sub S1->Z1 X0 s a w->a.defers= []->Q' .normal a w)->wpListIn ya 0 pP l0.toArray Q' l0 { tmps:=vs++yg (fn.ntmps - vs.size) undef,defers:=[] } w:=fun {Q'} hK=>by have:=ei (P:=pP) (bs:=[]) (Q':=Q') (X:=X0) (ops:=l0) (r:=[]) (N:=N) (K:=fun s=>s.Sub S1) (fun s a w _ h1 h2 h3=>wpListIn_nil (hK s a w h1 h2 h3)) l0 _ _ w g0 g1 rfl hrel rfl (zA _ _ h0);rw[yG,PK]at this;exact this
 refine wpIn_seq (wpIn_region_lit (VF fun s a1 w1 iD ef hd1=>?_));have ef:=iD X0 a1 w1 ef;show Code.wpIn ..;have mV: ∀{Q':Exit->Act->j5->Prop},(∀s a w,s.Sub S2->Z1 X0 s a w->a.defers= []->wpListIn ya 0 pP #[oc,od] Q' [od] a w)->wpListIn ya 0 pP #[oc,od] Q' [oc,od] a1 w1:=fun {Q'} hK=>by have:=ei (P:=pP) (bs:=[]) (Q':=Q') (X:=X0) (ops:=[oc,od]) (r:=[od]) (N:=N) (K:=fun s=>s.Sub S2) (fun s a w _ h1 h2 h3=>by rw[PK];exact hK s a w h1 h2 h3) [oc] _ _ w1 g2 g3 hS1 ef hd1 (zA _ _ h1);rw[PK]at this;exact this
 refine wpIn_seq (wpIn_region_lit (mV fun s a2 w2 iC hr2 hd2=>?_));obtain⟨E2,De⟩:=iC X0 a2 w2 hr2;have Bb:=De.sl cl;rw[QG]at Bb;obtain⟨Q6,hx,hy⟩:a2.eval (.tmp cl)= .func (.func 28) #[] #[.pointer (some ⟨E2.ρ x,0,none⟩),.pointer (some ⟨E2.ρ y,0,none⟩)]/\x∈ns/\y∈ns:=by
  refine⟨?_,Vz.2⟩;cases Bb with|one t v hv=> 
   generalize hgv:a2.tmps.getD cl undef=gv at hv;cases hv with
   | fv f caps vs hl hr=>
    have h2:vs.size=2:=hl;have e0:=hr 0 _ vs[0] rfl oh;have e1:=hr 1 _ vs[1] rfl oh;have e0:=(VD.one _ _ e0).bx_inv;have e1:=(VD.one _ _ e1).bx_inv;have:vs= #[vs[0],vs[1]]:=by
     apply Array.ext
     ·simp[h2]
     ·intro i hi _
      match i,(by omega:i<2)with
      | 0,_=>rfl
      | 1,_=>rfl
    show a2.tmps.getD cl undef=_;rw[hgv,this,e0,e1]
 refine wpListIn_step fun K' hK'=>?_;rw[hod];simp only[Region.wanted,an];have qS:(execOp a2.eval { dst:=none,op:=.defer { callee:=.value (.tmp cl),args:= #[],argTypes:=vy },type:=od.type,pos:=od.pos,after:=od.after,guard:=none }).run pP w2= .ok (.defer { target:=.fn (.func 28) #[.pointer (some ⟨E2.ρ x,0,none⟩),.pointer (some ⟨E2.ρ y,0,none⟩)],args:= #[] }) w2:=by unfold execOp;simp only[wq];rw[vC a2.eval (.tmp cl) #[] vy _ 28 _ Q6 w2];simp
 refine⟨fun f _=>trivial,?_⟩;rw[show Oper.semAt ya.round a2.eval _=execOp a2.eval _ from rfl,qS];refine hK' _ _ (wpListIn_nil ?_);show Code.wpIn ya 0 pP rest _ { a2 with defers:=_::a2.defers } w2;rw[hd2];have hE3:=L3 De ns hns [{ target:=.fn (.func 28) #[.pointer (some ⟨E2.ρ x,0,none⟩),.pointer (some ⟨E2.ρ y,0,none⟩)],args:= #[] }] (by rw[hS2];omega);rw[hS2]at hE3;have hinv: ∀w,(invoke (.fn (.func 28) #[.pointer (some ⟨E2.ρ x,0,none⟩),.pointer (some ⟨E2.ρ y,0,none⟩)]) #[]).run pP w= .ok (.enter 28 #[.pointer (some ⟨E2.ρ x,0,none⟩),.pointer (some ⟨E2.ρ y,0,none⟩)]) w:=fun w=>by simp only[invoke,Array.empty_append];exact Qs om _ w
 refine wpIn_mono (aE _ _ w2 ⟨_,hE3⟩) ?_;rintro e a' w' ⟨s',hq,E',hE'⟩;have fin: ∀(s'':DS) (E'':Env) (a'':Act) (w₄:j5),RelE ⟨w2,E2.K,iM S2.bx E2 ns,(vH E2 ns).ρ,NB,none,w2.heap.size,[{ target:=.fn (.func 28) #[.pointer (some ⟨E2.ρ x,0,none⟩),.pointer (some ⟨E2.ρ y,0,none⟩)],args:= #[] }]⟩ s'' E'' a'' w₄->a''.tmps=a'.tmps->Zs pP s'' fn.results.toList=some r->∃v,(results fn a'.tmps).run pP w₄= .ok v w₄/\∃v' E' r_1 H',Ending.returned v= .returned v'/\r_1=r/\WI X0 w₄ E' H'/\VD w₄ E' r_1 v':=fun s'' E'' a'' w₄ hE4 ht dR=>by rw[<-ht];obtain⟨v,h1,h2⟩:=BU hE4 dR;have QC:CallOk ns none:=⟨hns,oh⟩;have h3:=h2.tr (D8 QC (hE4.wi.based []));rw[hr]at h3;exact⟨v,h1,v,_,r,_,rfl,rfl,YY De.wi hB (hE4.wi.based []) QC,h3⟩
 rcases hQ e s' hq with⟨he,dR⟩|⟨c,rfl,ra,rb,k1,k2,k3,k4,k5⟩
 ·have iE:LeavesInM ya 0 pP fn a'.tmps (fun e w'=>∃v E' r_1 H',e=Ending.returned v/\r_1=r/\WI X0 w' E' H'/\VD w' E' r_1 v) a'.defers .returning w':=
   lv oh (wl _) hE' fun w₃ h₃=>⟨oh,.inr ⟨by simp[ya],_,_,28,_,rfl,hinv w₃,fun g _=>trivial,(Ih _ _ w₃).mono (by
    rintro en u' w₄ ⟨rfl,rfl,hbel⟩;exact fin s' E' { a' with defers:=_ } w₄ (h₃.quiet ⟨hbel,fun _ _ h=>h,fun _ _ _ h=>h,aP h₃.wi.kok hbel,rfl,rfl⟩) rfl dR)⟩⟩
  rcases he with rfl|rfl<;>exact iE
 ·have iE:LeavesInM ya 0 pP fn a'.tmps (fun e w'=>∃v E' r_1 H',e=Ending.returned v/\r_1=r/\WI X0 w' E' H'/\VD w' E' r_1 v) a'.defers (.panicking [{ v:=.iface 96 (.agg #[.int .i64 c]),recovered:=false }]) w':=
   lv oh (wl _) hE' fun w₃ h₃=>⟨oh,.inr ⟨by simp[ya],_,_,28,_,rfl,hinv w₃,fun g _=>trivial,by
    have ρx:E'.ρ (x+NB)=E2.ρ x:=by rw[h₃.wi.fix (x+NB) (y7 _ _)];simp[vH]
    have ρy:E'.ρ (y+NB)=E2.ρ y:=by rw[h₃.wi.fix (y+NB) (y7 _ _)];simp[vH]
    have:=Ww h₃ (p:=x+NB) (q:=y+NB) (fun e=>by have:=e.2;omega) (fun e=>by have:=e.2;omega) (by have:=Vz.1;omega) k1 k2 k3 k4 c;rw[ρx,ρy]at this;refine this.mono ?_;rintro en u' w₄ ⟨rfl,rfl,H',⟨E4,hE4⟩,m1,m2⟩;exact fin _ E4 { a' with defers:=_ } w₄ hE4 rfl (k5 H' m1 m2)⟩⟩
  exact iE
open Go.Shelf Go.Maps
attribute [local irreducible] DW DCalls ECalls NCalls wk IW
section
attribute [local go_sem] Oper.semAt_some
theorem Tryz.int_info:(pP.info? 3).map (fun i=>(i.zero,i.size,i.bytes))=some (some (.int .i64 0),1,8):=om
theorem Tryz.zero_ints(w:j5):(zeroValue 31).run pP w= .ok (.slice none 0 0) w:=om
def rJ{P:Program}{w:j5}{k t E e:j8}{q:IntKind}{base b n:Nat}{D:DataW Unit}(h:w.ownsGroups P k base e q b n D)(K:Keyed P k)(ht:P.underlying t=some (.map k E))(hz: ∀w,(zeroValue E).run P w= .ok (.slice none 0 0) w){key:j6}{kl:Lit}(lG:keyOf P k key=some kl):
  ∃v zs,D.atKey kl .nil=rowDatum q v zs/\w.ownsInts base e q v zs/\∀W:j5,W.heap[b]? =w.heap[b]?->(Instr.lookup t (.map (some b)) key false).run P W= .ok v W:=by
 obtain⟨es,clock,hb,F,hs,rfl,uO,vG,Ac⟩:=h;have rH:=F.stamped.2.2;rcases fit_look false K ht (hz w) hb F lG with⟨_,fZ,gg⟩|⟨e0,y,bO,Z5,_,hR,gg,_⟩
 ·refine⟨.slice none 0 0,[],by rw[gg];rfl,World.ownsInts_nil _ _ _ _,fun W hW=>?_⟩;have F0:Go.WideElems.Fit P k (fun _=>some ((.nil:DataW Unit),([]:List MemPlace))) es clock:=⟨F.size,F.stamped,fun x hx=>by obtain⟨y,hy⟩:=F.reads x hx;exact⟨(y.1,.nil),by simp[Go.WideElems.rd,Go.WideElems.rd_key hy]⟩⟩
  rcases fit_look false K ht (hz W) (hW.trans hb) F0 lG with⟨hr,_,_⟩|⟨e1,_,hm1,x8,_⟩
  ·exact hr
  ·exact ak x8 (fZ e1 hm1)
 ·obtain⟨zs,ho,rfl⟩:=rowElem_inv hR;refine⟨e0.val,zs,gg _,ho,fun W hW=>?_⟩;have F0:Go.WideElems.Fit P k (fun _=>some ((.nil:DataW Unit),([]:List MemPlace))) es clock:=⟨F.size,F.stamped,fun x hx=>by obtain⟨y,hy⟩:=F.reads x hx;exact⟨(y.1,.nil),by simp[Go.WideElems.rd,Go.WideElems.rd_key hy]⟩⟩
  rcases fit_look false K ht (hz W) (hW.trans hb) F0 lG with⟨_,fZ,_⟩|⟨e1,_,hm1,x8,hr,_⟩
  ·exact ak Z5 (fZ e0 bO)
  ·obtain⟨i,hi,e2⟩:=List.getElem_of_mem bO;obtain⟨j,hj,e3⟩:=List.getElem_of_mem hm1;have A9:i=j:=by
    have hp:=yH.1 rH;simp only[wn,List.getElem_map]at hp;rcases Nat.lt_trichotomy i j with h|h|h
    ·exact ak (by rw[e2,e3,Z5,x8]) (hp i j hi hj h)
    ·exact h
    ·exact ak (by rw[e2,e3,Z5,x8]) (hp j i hj hi h)
   subst A9;rw[e2]at e3;subst e3;exact hr
def xU{size:Nat}{n:Nat}{xs:List j6}(h:w.ownsRow base e size v n xs): ∃A c,v= .slice A n c:=by
 rcases h.2 with⟨rfl,rfl⟩|⟨g,cap,cur,rfl,_⟩
 ·exact⟨_,_,rfl⟩
 ·exact⟨_,_,rfl⟩
structure UBase(w0:j5)(p5 fu F1 mb:Nat)(f:Int->List Int):Prop where
 map:w0.heap[p5]? =some (.cells #[.map (some mb)] 216 (0,0))
 fn:w0.heap[F1]? =some (.cells #[.func (.func 130) #[] #[.pointer (some ⟨p5,0,none⟩),.pointer (some ⟨fu,0,none⟩),.pointer (some ⟨F1,0,none⟩)]] 217 (0,0))
 look: ∀x:Int,(Lit.int .i64 x).wf=true->∃A c,(∀W:j5,W.heap[mb]? =w0.heap[mb]?->(Instr.lookup 216 (.map (some mb)) (.int .i64 x) false).run pP W= .ok (.slice A (f x).length c) W)/\∀k y,(f x)[k]? =some y->∃b o,A=some ⟨b,o,none⟩/\w0.cell? ⟨b,o+k,none⟩=some (.int .i64 y)/\b<w0.heap.size/\b≠fu
 n5:p5≠fu
 n11:F1≠fu
 nm:mb≠fu
 lm:mb<w0.heap.size
 lp:fu<w0.heap.size
structure UInv(w0 W:j5)(fu:Nat)(ids:List Int):Prop where
 os:W.os=w0.os
 tape:W.tape=w0.tape
 output:W.output=w0.output
 size:w0.heap.size<=W.heap.size
 old: ∀b,b<w0.heap.size->b≠fu->W.heap[b]? =w0.heap[b]?
 cur: ∃v,W.heap[fu]? =some (.cells #[v] 31 (0,0))/\W.ownsInts w0.heap.size 3 .i64 v ids
def UInv.push{w0 wr w1:j5}{fu:Nat}{ids ids':List Int}{v':j6}(hR:UInv w0 wr fu ids)(lp:fu<w0.heap.size)(xZ:wr.heap[fu]? =some (.cells #[v] 31 (0,0)))(HC:wr.ownsInts w0.heap.size 3 .i64 v ids)(zW:wr.grownBy w1 v.ownBlock)(eM:w1.ownsInts w0.heap.size 3 .i64 v' ids'):UInv w0 (w1.setCell ⟨fu,0,none⟩ v') fu ids':=by
 have EU: ∀b,b<w0.heap.size->some b≠v.ownBlock:=fun b hb e=>by have:=(HC.1.lt b e.symm).1;omega
 have hs:=hR.size;have qcr:=(zW.block fu oa (EU _ lp)).trans xZ;refine⟨zW.os.trans hR.os,zW.tape.trans hR.tape,zW.output.trans hR.output,?_,fun b hb qH=>?_,⟨v',?_,?_⟩⟩
 ·have:=zW.size;simp[World.setCell];omega
 ·exact(Below.heap_setCell _ ⟨fu,0,none⟩ _ b qH).trans ((zW.block b oa (EU _ hb)).trans (hR.old b hb qH))
 ·have:=Go.heap_setCell_same w1 fu 0 _ _ v' qcr;simpa using this
 ·refine eM.kept (grownBy_setCell' w1 fu v') ?_;cases hb:v'.ownBlock with
  | none=>exact .inl rfl
  | some g=>
   refine .inr fun e=>?_;injection e with e
   have:=(eM.1.lt g hb).1;omega
set_option maxRecDepth 100000 in
def mc(L:List Nte)(G:Nte->List Int)(w0:j5)(p5 fu F1 mb:Nat)(f:Int->List Int)(hB:UBase w0 p5 fu F1 mb f)(x:Int)(hxw:(Lit.int .i64 x).wf=true)(hf:f x=L.map (·.id))(PM: ∀n∈L,(Lit.int .i64 n.id).wf=true)
  (ih: ∀n∈L,∀(W:j5) (ids:List Int),UInv w0 W fu ids->(ids++G n).length<=1000000->CallsIn ya 0 pP 130 #[.int .i64 n.id,.pointer (some ⟨p5,0,none⟩),.pointer (some ⟨fu,0,none⟩),.pointer (some ⟨F1,0,none⟩)] W fun e W'=>(∃v,e= .returned v)/\UInv w0 W' fu (ids++G n))
  (W:j5) (ids:List Int) (hI:UInv w0 W fu ids) (hl:(ids++L.flatMap fun n=>n.id::G n).length<=1000000):
  CallsIn ya 0 pP 130 #[.int .i64 x,.pointer (some ⟨p5,0,none⟩),.pointer (some ⟨fu,0,none⟩),.pointer (some ⟨F1,0,none⟩)] W fun e W'=>(∃v,e= .returned v)/\UInv w0 W' fu (ids++L.flatMap fun n=>n.id::G n):=by
 obtain⟨i0,hi,AX,AW,xL⟩:=info_parts Tryz.int_info;obtain⟨A,c,E7,Cn⟩:=hB.look x hxw;rw[hf]at E7 Cn;have l5:p5<w0.heap.size:=(wH.1 hB.map).1;have l11:F1<w0.heap.size:=(wH.1 hB.fn).1;have hlL:L.length<=1000000:=by
  have:L.length<=(L.flatMap fun n=>n.id::G n).length:=by
   clear Cn E7 hf ih PM hl;induction L with
   | nil=>simp
   | cons n L ih=>simp only[jA,wz,wW];omega
  rw[wz]at hl;omega
 have h5:=(hI.old p5 l5 hB.n5).trans hB.map;have c5:=yB h5 0;simp only[yI,yk]at c5;have hlk1:=E7 W (hI.old mb hB.lm hB.nm);rw[wn]at hlk1;refine callsIn_of_wp func130 rfl trivial ?_;simp only[ntmps130,List.size_toArray,wW,wT,Nat.reduceAdd,Nat.reduceSub,Array.replicate_succ,Array.replicate_zero,List.push_toArray,List.append_toArray,wI,wD]
 gi_wp2
 gi_loopw [11] (fun i wr=>∃k:Nat,k<=L.length/\i= .int .i64 k/\UInv w0 wr fu (ids++(L.take k).flatMap fun n=>n.id::G n)) (fun i _=>L.length - (intOf i).toNat)
 case atStart=>exact⟨0,wM _,rfl,by simpa using hI⟩
 case round=>
  obtain⟨k,hk,rfl,hR⟩:=hrel;clear hlk1 c5 h5 hI;by_cases qf:k<L.length
  ·have hn:L[k]? =some L[k]:=wa qf;generalize L[k]=n at hn;have pk:=ww hn;obtain⟨b,o,rfl,cA,lJ,hbp⟩:=Cn k n.id (by rw[wh,hn];rfl);replace cA:=(World.cell?_of_block (w:=w0) (w':=wr) (a:=⟨b,o+k,none⟩) (hR.old b lJ hbp)).trans cA;have hlt':((k:Int)<(L.length:Int))=True:=ot;obtain⟨v,xZ,HC⟩:=hR.cur;have c10:=yB xZ 0;simp only[yI,yk]at c10;have hw:=PM n pk;have A4:(ids++(L.take k).flatMap fun n=>n.id::G n).length+1+(G n).length<=1000000:=by
    have h1:L.flatMap (fun n=>n.id::G n)=(L.take k).flatMap (fun n=>n.id::G n)++((n.id::G n)++(L.drop (k+1)).flatMap fun n=>n.id::G n):=by
     conv=>lhs;rw[<-yf k L,wP qf,(wg.1 hn).2]
     simp only[jm,jA]
    rw[h1]at hl;simp only[wz,wW]at hl ⊢;omega
   have qs:(L.take (k+1)).flatMap (fun n=>n.id::G n)=(L.take k).flatMap (fun n=>n.id::G n)++n.id::G n:=by rw[yV,hn];simp
   generalize (L.take k).flatMap (fun n=>n.id::G n)=Q at*
   have hll2:(ids++Q).length+1<=1000000:=oa
   gi_wp2_with (gi_at_builtin;refine wpListIn_append_own_at _ rfl _ _ 31 rfl w0.heap.size 3 i0 (.int .i64 0) 1 8 underlying31 hi AX AW xL rfl oo _ _ _ rfl (HC.1.alloc _) ⟨wr.heap.size,0,none⟩ 1 1 [.int .i64 n.id] rfl rfl (cell_one_new _ _ _) (ints_oneCell .i64 [n.id]) (by unfold maxLen;omega) oa (by simp;have:=hR.size;omega) ?_)
   intro v' w1 hown' hgrow hnil hloc;have zW:=(World.grownBy_alloc wr (.cells #[.int .i64 n.id] 3) v.ownBlock).trans hgrow;have EU: ∀b,b<w0.heap.size->some b≠v.ownBlock:=fun b hb e=>by have:=(HC.1.lt b e.symm).1;omega
   have hszR:=hR.size;have qcr:=(zW.block fu (by have:=hB.lp;omega) (EU _ hB.lp)).trans xZ;have h11:=((zW.block F1 oa (EU _ l11)).trans (hR.old F1 l11 hB.n11)).trans hB.fn;have d10:=yB qcr 0;have e10:=Lib.frozen_of_heap qcr 0;have d11:=yB h11 0;simp only[yI,yk]at d10 d11;have qH:=hB.n11;clear c10 cA;obtain⟨A2,c2,hv2'⟩:=xU hown';subst hv2';have F5:w1.ownsInts w0.heap.size 3 .i64 (.slice A2 (ids.length+Q.length+1) c2) (ids++Q++[n.id]):=HC.appended (by simpa using hown') hw;have hP:=hR.push hB.lp xZ HC zW F5
   gi_wp2
   refine⟨trivial,rfl,(ih n pk _ _ hP (by simp only[wz,List.length_singleton]at A4 ⊢;omega)).mono ?_⟩;rintro e W3 ⟨⟨v3,rfl⟩,hR3⟩
   gi_wp2
   refine⟨⟨k+1,oa,rfl,?_⟩,by simp only[intOf];omega⟩;rw[qs];simpa using hR3
  ·have hlt':((k:Int)<(L.length:Int))=False:=by simp;omega
   have:k=L.length:=oa;subst this;rw[wc]at hR
   gi_wp2
   go_end0
   exact⟨⟨_,rfl⟩,hR⟩
def NU(l:List Nte):Nat->Int->Prop
 | 0,x=>∀n∈l,n.par≠x
 | f+1,x=>∀n∈l,n.par=x->NU l f n.id
def me(l:List Nte)(w0:j5)(p5 fu F1 mb:Nat)(hB:UBase w0 p5 fu F1 mb fun x=>(l.filter fun n=>n.par==x).map (·.id))(PM: ∀n∈l,(Lit.int .i64 n.id).wf=true): ∀(f:Nat) (x:Int),(Lit.int .i64 x).wf=true->NU l f x->∀(W:j5) (ids:List Int),UInv w0 W fu ids->(ids++cL l f x).length<=1000000->
  CallsIn ya 0 pP 130 #[.int .i64 x,.pointer (some ⟨p5,0,none⟩),.pointer (some ⟨fu,0,none⟩),.pointer (some ⟨F1,0,none⟩)] W fun e W'=>(∃v,e= .returned v)/\UInv w0 W' fu (ids++cL l f x)
 | 0,x,hx,hs,W,ids,hI,hl=>by
  have hL:(l.filter fun n=>n.par==x)= []:=List.filter_eq_nil_iff.2 fun n hn=>by simpa using hs n hn
  have:=mc [] (fun _=>[]) w0 p5 fu F1 mb _ hB x hx (by simp only[hL]) oh oh W ids hI (by simpa[cL]using hl);simpa[cL]using this
 | f+1,x,hx,hs,W,ids,hI,hl=>
  mc (l.filter fun n=>n.par==x) (fun n=>cL l f n.id) w0 p5 fu F1 mb _ hB x hx rfl (fun n hn=>PM n (yR.1 hn).1)
   (fun n hn W ids hI hl=>me l w0 p5 fu F1 mb hB PM f n.id (PM n (yR.1 hn).1) (hs n (yR.1 hn).1 (by simpa using (yR.1 hn).2)) W ids hI hl) W ids hI hl
end
open S (usort)
section
attribute [local go_sem] Oper.semAt_some
def Qq(w:j5)(o:Obj)(b:Nat):(w.alloc o).heap[b]? =if b=w.heap.size then some o else w.heap[b]? :=by
 by_cases h:b=w.heap.size
 ·subst h;rw[ae rfl];exact jg w o
 ·rw[j7 h];rcases yD b w.heap.size with h1|h1
  ·exact Below.heap_alloc w o b h1
  ·rw[jM h1,jM (by rw[World.size_alloc];omega)]
def BS{a:Addr}{m:Mode}(f:_)(t:_)(c:_):(store a (.func f t c) m).run P w=stored P w a (.func f t c) m:=run_store P w a _ m rfl
attribute [local go_sem] BS
def fW(l:List Nte)(x:Int):List Int:=(l.filter fun n=>n.par==x).map (·.id)
def qfS(zs:List Int):DataW Unit:=if zs= []then .nil else .slice (Go.ChangeShapes.lits .i64 zs) []
def Tryz.keyed3:Keyed pP 3:=int_keyed underlying3
def tj{K:qM}{u:j6}(h:VC w K (.lit v) u):u=v:=by cases h;rfl
structure GrpI(w:j5)(l:List Nte)(vs:Array j6)(k:Nat)(wr:j5):Prop where
 own: ∃D,wr.ownsGroups (H:=Unit) pP 3 (w.heap.size+3) 3 .i64 (w.heap.size+1) k D/\∀x:Int,(Lit.int .i64 x).wf=true->D.atKey (.int .i64 x) .nil=qfS (fW (l.take k) x)
 below:Below w.heap.size w wr
 doc:wr.heap[w.heap.size]? =some (.cells vs 42 (0,0))
 map:wr.heap[w.heap.size+2]? =some (.cells #[.map (some (w.heap.size+1))] 216 (0,0))
 size:w.heap.size+3<=wr.heap.size
def UA(W0:j5)(T:Array j6)(mb p7 base:Nat)(n:Nte)(v:j6)(zs:List Int)(fin:j5->Prop)(m:Nat)(a:Act)(w:j5):Prop:=
 ∃v',a.defers= []/\Sls T 20 m [.map (some mb),.pointer (some ⟨p7,2,none⟩),.int .i64 n.par,.map (some mb),.pointer (some ⟨p7,2,none⟩),.int .i64 n.par,v,.pointer (some ⟨p7,0,none⟩),.int .i64 n.id,.slice (some ⟨W0.heap.size,0,none⟩) 1 1,v'] a.tmps/\
  (m.testBit 11=false->∀b,b<W0.heap.size->some b≠v.ownBlock->w.heap[b]? =W0.heap[b]?)/\(m.testBit 9=false->w=W0)/\(m.testBit 9=true->m.testBit 10=false->w=W0.alloc (.cells #[.int .i64 n.id] 3))/\
  (m.testBit 10=true->m.testBit 11=false->(W0.alloc (.cells #[.int .i64 n.id] 3)).grownBy w v.ownBlock/\w.ownsRow base 3 1 v' (zs.length+1) (zs.map (Value.int .i64)++[.int .i64 n.id])/\(v'.ownBlock=v.ownBlock\/v'.ownBlock=some (W0.heap.size+1)))/\(m.testBit 11=true->fin w)
def Hu{l:List Nte}(hn:l[k]? =some n)(x:Int):fW (l.take (k+1)) x=if n.par=x then fW (l.take k) x++[n.id]else fW (l.take k) x:=by
 unfold fW;rw[yV,hn];simp only[Option.toList_some,jr,yt];split
 ·rename_i h;simp[h]
 ·rename_i h;simp[h]
def JC{zs ks:List Int}(h:w.ownsInts base e .i64 v zs)(hd:rowDatum (H:=Unit) .i64 v zs=qfS ks):zs=ks:=by
 unfold qfS at hd;rcases h.datum (H:=Unit)with⟨h1,rfl⟩|h1
 ·rw[h1]at hd;split at hd
  ·rename_i h2;exact h2.symm
  ·cases hd
 ·rw[h1]at hd;split at hd
  ·cases hd
  ·injection hd with h2 _
   exact(List.map_inj_right (fun a b Fe=>by cases Fe;rfl)).1 h2
def Zq{ops:Array Oper}{Q:Exit->Act->j5->Prop}{i:Nat}{K:Act->j5->Prop}{a:Act}(ho:ops[i]? =some o)(hg:o.guard=none)(h:o.wp P a w K Q):wpOp P ops Q i K a w:=by unfold wpOp;simp only[ho];rw[ae (by simp[Region.wanted,hg])];exact .inl h
def UA.val{W0:j5}{T:Array j6}{mb p7 base:Nat}{n:Nte}{v:j6}{zs:List Int}{fin:j5->Prop}{m:Nat}{a:Act}{w:j5}(h:UA W0 T mb p7 base n v zs fin m a w)(hT:T.size=46){i:Nat}(hi:i<9){x:j6}
  (hx: [.map (some mb),.pointer (some ⟨p7,2,none⟩),.int .i64 n.par,.map (some mb),.pointer (some ⟨p7,2,none⟩),.int .i64 n.par,v,.pointer (some ⟨p7,0,none⟩),.int .i64 n.id][i]? =some x):UA W0 T mb p7 base n v zs fin (m ||| 2 ^ i) (a.put (some (20+i)) x) w:=by
 obtain⟨v',h1,h2,h3,h4,h5,h6,h7⟩:=h;have b9:(m ||| 2 ^ i).testBit 9=m.testBit 9:=by rw[vx,au oa,yu]
 have YC:(m ||| 2 ^ i).testBit 10=m.testBit 10:=by rw[vx,au oa,yu]
 have Tq:(m ||| 2 ^ i).testBit 11=m.testBit 11:=by rw[vx,au oa,yu]
 refine⟨v',h1,h2.put ?_ (by simp[hT]),by rw[Tq];exact h3,by rw[b9];exact h4,by rw[b9,YC];exact h5,by rw[YC,Tq];exact h6,by rw[Tq];exact h7⟩;rw[<-hx]
 match i,hi with
 | 0,_|1,_|2,_|3,_|4,_|5,_|6,_|7,_|8,_=>rfl
def Yp{t:Array j6}{ds:_}{x:j6}(h:t[k]? =some x):(Act.mk t ds).eval (.tmp k)=x:=by simp[Act.eval,h]
set_option maxRecDepth 100000 in
def Dx(d:Dcm)(id:Int)(hl:d.notes.length<=1000000)(aM: ∀n∈d.notes,(Lit.int .i64 n.id).wf=true/\(Lit.int .i64 n.par).wf=true){w:j5}{K:qM}(hk:KOk w K){v0 v1 v2 v3 v4 v5 v6:j6}(hdv:VD w (E0 K) (.agg d.row) (.agg #[v0,v1,v2,v3,v4,v5,v6]))(F:Nat)(hid:(Lit.int .i64 id).wf=true)(hF:NU d.notes F id)(hlF:(cL d.notes F id).length<=1000000):
  Calls pP 70 #[.agg #[v0,v1,v2,v3,v4,v5,v6],.int .i64 id] w fun e w'=>∃v E',e= .returned v/\Ret w K w' E'/\VD w' E' (dv (.sl 1 (ints (if(qI d.notes id).2=true then usort (cL d.notes F id)else [])))) v:=by
 have EY:=@run_makeMap pP;obtain⟨N,bb,hNb⟩: ∃N bb,qI d.notes id=(N,bb):=⟨_,_,rfl⟩;rw[hNb];have hv6:VC w K (.sl 7 (d.notes.map Nte.enc)) v6:=by
  cases hdv with|agg ts vs hl hr=>exact(hr 6 _ v6 rfl rfl).cl
 obtain⟨A,cap,rfl⟩:=BR hv6;simp only[wn]at hdv ⊢
 ·go_enter func70,ntmps70
  go_wp2
  go_loopw [16] (fun i wr=>∃k:Nat,k<=d.notes.length/\i= .int .i64 k/\GrpI w d.notes #[v0,v1,v2,v3,v4,v5,.slice A d.notes.length cap] k wr) (fun i _=>d.notes.length - (intOf i).toNat)
  case atStart=>
   refine⟨0,wM _,rfl,⟨.map [],⟨#[],0,?_,⟨oh,Go.MapKept.stamped_empty 0,oh⟩,wl _,rfl,oa,oh,oh⟩,fun x _=>?_⟩,?_,?_,?_,?_⟩
   ·rw[Qq,j7 oh,Qq,ae oh]
   ·simp[fW,qfS,DataW.atKey]
   ·exact(((Below.refl _ w).alloc (wl _) _).alloc oh _).alloc ot _
   ·rw[Qq,j7 ot,Qq,j7 oh,Qq,ae rfl]
   ·rw[Qq,ae oh]
   ·simp
  case round=>
   obtain⟨k,hk',rfl,hI⟩:=hrel;by_cases qf:k<d.notes.length
   ·obtain⟨n,hn⟩: ∃n,d.notes[k]? =some n:=⟨_,wa qf⟩;obtain⟨ab,ao,asp,cv,rfl,QE,ZS⟩: ∃ab ao asp,∃cv:Nat->j6,A=some ⟨ab,ao,asp⟩/\(∀j,j<(d.notes.map Nte.enc).length*7->asp=none/\K ab (ao+j)/\w.cell? ⟨ab,ao+j,none⟩=some (cv j))/\∀(i j:Nat) r c,(d.notes.map Nte.enc)[i]? =some r->r[j]? =some c->VC w K c (cv (i*7+j)):=by
     rcases hv6.sl_inv with⟨_,h2⟩|⟨⟨ab,ao,asp⟩,cap',cv,h1,_,_,_,h3,h4⟩
     ·have:d.notes.length=0:=by simpa using af List.length h2
      omega
     ·injection h1 with h1 _ _
      exact⟨ab,ao,asp,cv,h1,h3,h4⟩
    have ZE:(d.notes.map Nte.enc)[k]? =some n.enc:=by rw[wh,hn];rfl
    have hlt':((k:Int)<(d.notes.length:Int))=True:=ot;have XZ:asp=none:=(QE (k*7) (by rw[wn];omega)).1;subst XZ;have hc: ∀j,j<7->wr.cell? ⟨ab,ao+k*7+j,none⟩=some (cv (k*7+j)):=fun j hj=>by obtain⟨_,h1,h2⟩:=QE (k*7+j) (by rw[wn];omega);rw[ju,<-h2];exact hI.below.cell (p:=⟨ab,ao+(k*7+j),none⟩) (qP (hk _ _ h1))
    have c0:=hc 0 oa;have c1:=hc 1 oa;have c2:=hc 2 oa;have c3:=hc 3 oa;have c4:=hc 4 oa;have c5:=hc 5 oa;have c6:=hc 6 oa;rw[tj (ZS k 0 n.enc _ ZE rfl)]at c0;rw[tj (ZS k 1 n.enc _ ZE rfl)]at c1;rw[tj (ZS k 2 n.enc _ ZE rfl)]at c2;rw[tj (ZS k 3 n.enc _ ZE rfl)]at c3;rw[tj (ZS k 4 n.enc _ ZE rfl)]at c4;rw[tj (ZS k 5 n.enc _ ZE rfl)]at c5;rw[tj (ZS k 6 n.enc _ ZE rfl)]at c6;clear hc;rw[jB]at c0;go_wp2;clear c0 c1 c2 c3 c4 c5 c6 ZS QE ZE hdv;obtain⟨D,eM,hdat⟩:=hI.own;obtain⟨wf,PM⟩: ∃x,x=wr.alloc (.cells #[.int .i64 n.id,.int .i64 n.tier,.int .i64 n.par,.int .i64 n.fr,.int .i64 n.tg,.int .i64 n.rank,.string n.txt] 122):=⟨_,rfl⟩;rw[<-PM];obtain⟨W0,qcm⟩: ∃x,x={ wf with drawn:=wf.drawn+1 }:=⟨_,rfl⟩;have Ye:wr.grownBy W0 none:=by rw[qcm,PM];exact⟨rfl,rfl,rfl,oh,fun b hb _=>Below.heap_alloc wr _ b hb⟩
    have hsz0:W0.heap.size=wr.heap.size+1:=by rw[qcm,PM];simp
    have h7:W0.heap[wr.heap.size]? =some (.cells #[.int .i64 n.id,.int .i64 n.tier,.int .i64 n.par,.int .i64 n.fr,.int .i64 n.tg,.int .i64 n.rank,.string n.txt] 122 (0,0)):=by rw[qcm,PM];exact jg wr _
    have hs:=hI.size;have h5:W0.heap[w.heap.size+2]? =some (.cells #[.map (some (w.heap.size+1))] 216 (0,0)):=(Ye.block _ oa oh).trans hI.map;have X7:=eM.kept Ye oh (fun es clock hb x hx=>by
     cases h:x.val.ownBlock with
     | none=>exact .inl rfl
     | some g=>exact .inr oh)
    have hwfn:=aM n (ww hn);have VB:=hwfn.2;have P4:=info_parts Tryz.int_info;obtain⟨_,_,_,_,qb8⟩:=rJ X7 Tryz.keyed3 (t:=216) (E:=31) underlying216 Tryz.zero_ints (key:=.int .i64 n.par) (kl:=.int .i64 n.par) (keyOf_int_mk underlying3 VB);obtain⟨v,zs,qS,gg,F5,hzl,Fc⟩:=X7.at Tryz.keyed3 (t:=216) (E:=31) underlying216 (Tryz.zero_ints W0) (by unfold maxLen;omega) (key:=.int .i64 n.par) (kl:=.int .i64 n.par) (keyOf_int_mk underlying3 VB);obtain rfl:v=_:=by
     have:=(qb8 W0 rfl).symm.trans qS;injection this with h1 _
     exact h1.symm
    obtain⟨T,hT⟩: ∃T:Array j6,T= #[Value.agg #[v0,v1,v2,v3,v4,v5,Value.slice (some { block:=ab,off:=ao }) d.notes.length cap],Value.int IntKind.i64 id,Value.pointer (some { block:=w.heap.size,off:=0 }),undef,Value.slice none 0 0,Value.pointer (some { block:=w.heap.size+1+1,off:=0 }),undef,Value.pointer (some { block:=wr.heap.size,off:=0 }),undef,undef,undef,undef,Value.map (some (w.heap.size+1)),Value.pointer (some { block:=w.heap.size,off:=6 }),Value.slice (some { block:=ab,off:=ao }) d.notes.length cap,Value.int IntKind.i64 ↑d.notes.length,Value.int IntKind.i64 ↑k,Value.bool true,Value.pointer (some { block:=ab,off:=ao+k*7 }),Value.agg #[Value.int IntKind.i64 n.id,Value.int IntKind.i64 n.tier,Value.int IntKind.i64 n.par,Value.int IntKind.i64 n.fr,Value.int IntKind.i64 n.tg,Value.int IntKind.i64 n.rank,Value.string n.txt],u20,u21,u22,u23,u24,u25,u26,u27,u28,u29,u30,u31,undef,undef,undef,undef,undef,undef,undef,undef,undef,undef,undef,undef,undef,undef]:=⟨_,rfl⟩;rw[<-hT];have LP:T.size=46:=by rw[hT];rfl
    have hT5:T[5]? =some (.pointer (some ⟨w.heap.size+2,0,none⟩)):=by rw[hT];rfl
    have hT7:T[7]? =some (.pointer (some ⟨wr.heap.size,0,none⟩)):=by rw[hT];rfl
    obtain⟨fin,na⟩: ∃fin:j5->Prop,fin=fun w'=>∃w1 v'',(W0.alloc (.cells #[.int .i64 n.id] 3)).grownBy w1 v.ownBlock/\w1.ownsInts (w.heap.size+3) 3 .i64 v'' (zs++[n.id])/\w'.ownsGroups pP 3 (w.heap.size+3) 3 .i64 (w.heap.size+1) (k+1) (D.put (.int .i64 n.par) (rowDatum .i64 v'' (zs++[n.id])))/\w1.grownBy w' (some (w.heap.size+1)):=⟨_,rfl⟩
    refine MX [[],[],[1],[],[],[4],[3,5],[],[7],[8],[6,9],[0,2,10,10,0,1,2,3,4,5,6,7,8,9,10]] 4095 (UA W0 T (w.heap.size+1) wr.heap.size (w.heap.size+3) n v zs fin) om ?_ om om ?_ ?_ ?_
    ·kernel_rfl
    ·exact⟨undef,rfl,Sls.start _ _ _,fun _ b hb _=>by rw[qcm],fun _=>qcm.symm,fun h=>by simp at h,fun h=>by simp at h,fun h=>by simp at h⟩
    ·intro i o ho m hb QG F9 a w1 hA;obtain⟨v',hA1,nf,hA3,hA4,hA5,hA6,hA7⟩:=hA;have dB:=nf.size;obtain⟨t,ds⟩:=a;simp only at hA1 nf dB;subst hA1;have hU:UA W0 T (w.heap.size+1) wr.heap.size (w.heap.size+3) n v zs fin m ⟨t,[]⟩ w1:=⟨v',rfl,nf,hA3,hA4,hA5,hA6,hA7⟩;have e5:=(nf.out 5 (.inl oa)).trans hT5;have e7:=(nf.out 7 (.inl oa)).trans hT7;have EU: ∀b,b<w.heap.size+3->some b≠v.ownBlock:=fun b hb e=>by have:=(F5.1.lt b e.symm).1;omega
     have hv7:some wr.heap.size≠v.ownBlock:=fun e=>by
      rcases F5.1.2 with⟨rfl,_⟩|⟨g,c,cur,rfl,_,hh,_⟩
      ·cases e
      ·simp only[Value.ownBlock,Option.some.injEq]at e;subst e;rw[h7]at hh;simp at hh
     have hc5:m.testBit 11=false->w1.cell? ⟨w.heap.size+2,0,none⟩=some (.map (some (w.heap.size+1))):=fun h=>by have:=yB ((hA3 h (w.heap.size+2) oa (EU _ oa)).trans h5) 0;simpa using this
     have hc70:m.testBit 11=false->w1.cell? ⟨wr.heap.size,0,none⟩=some (.int .i64 n.id):=fun h=>by have:=yB ((hA3 h wr.heap.size oa hv7).trans h7) 0;simpa using this
     have hc72:m.testBit 11=false->w1.cell? ⟨wr.heap.size,2,none⟩=some (.int .i64 n.par):=fun h=>by have:=yB ((hA3 h wr.heap.size oa hv7).trans h7) 2;simpa using this
     match i,ho with
     | 0,ho=>
      simp at ho;refine Zq (by simp;exact ho) (by rw[<-ho]) ?_;subst ho;have dS:m.testBit 11=false:=by
       cases hc:m.testBit 11 with
       | false=>rfl
       | true=>rw[QG 11 hc 0 oo]at hb;cases hb
      refine vg (v:=.map (some (w.heap.size+1))) (w':=w1) ?_ (UA.val hU LP (i:=0) oa rfl);simp[go_sem,e5,hc5 dS]
     | 1,ho=>
      simp at ho;refine Zq (by simp;exact ho) (by rw[<-ho]) ?_;subst ho;have dS:m.testBit 11=false:=by
       cases hc:m.testBit 11 with
       | false=>rfl
       | true=>rw[QG 11 hc 1 oo]at hb;cases hb
      refine vg (v:=.pointer (some ⟨wr.heap.size,2,none⟩)) (w':=w1) ?_ (UA.val hU LP (i:=1) oa rfl);simp[go_sem,e7]
     | 2,ho=>
      simp at ho;refine Zq (by simp;exact ho) (by rw[<-ho]) ?_;subst ho;have dS:m.testBit 11=false:=by
       cases hc:m.testBit 11 with
       | false=>rfl
       | true=>rw[QG 11 hc 2 oo]at hb;cases hb
      have e21:=nf.ins 1 _ (F9 1 oo) rfl;simp only[Nat.reduceAdd]at e21;refine vg (v:=.int .i64 n.par) (w':=w1) ?_ (UA.val hU LP (i:=2) oa rfl);simp[go_sem,e21,hc72 dS]
     | 3,ho=>
      simp at ho;refine Zq (by simp;exact ho) (by rw[<-ho]) ?_;subst ho;have dS:m.testBit 11=false:=by
       cases hc:m.testBit 11 with
       | false=>rfl
       | true=>rw[QG 11 hc 3 oo]at hb;cases hb
      refine vg (v:=.map (some (w.heap.size+1))) (w':=w1) ?_ (UA.val hU LP (i:=3) oa rfl);simp[go_sem,e5,hc5 dS]
     | 4,ho=>
      simp at ho;refine Zq (by simp;exact ho) (by rw[<-ho]) ?_;subst ho;have dS:m.testBit 11=false:=by
       cases hc:m.testBit 11 with
       | false=>rfl
       | true=>rw[QG 11 hc 4 oo]at hb;cases hb
      refine vg (v:=.pointer (some ⟨wr.heap.size,2,none⟩)) (w':=w1) ?_ (UA.val hU LP (i:=4) oa rfl);simp[go_sem,e7]
     | 5,ho=>
      simp at ho;refine Zq (by simp;exact ho) (by rw[<-ho]) ?_;subst ho;have dS:m.testBit 11=false:=by
       cases hc:m.testBit 11 with
       | false=>rfl
       | true=>rw[QG 11 hc 5 oo]at hb;cases hb
      have e24:=nf.ins 4 _ (F9 4 oo) rfl;simp only[Nat.reduceAdd]at e24;refine vg (v:=.int .i64 n.par) (w':=w1) ?_ (UA.val hU LP (i:=5) oa rfl);simp[go_sem,e24,hc72 dS]
     | 6,ho=>
      simp at ho;refine Zq (by simp;exact ho) (by rw[<-ho]) ?_;subst ho;have dS:m.testBit 11=false:=by
       cases hc:m.testBit 11 with
       | false=>rfl
       | true=>rw[QG 11 hc 6 oo]at hb;cases hb
      have e23:=nf.ins 3 _ (F9 3 oo) rfl;simp only[Nat.reduceAdd]at e23;have e25:=nf.ins 5 _ (F9 5 oo) rfl;simp only[Nat.reduceAdd]at e25;refine vg (v:=v) (w':=w1) ?_ (UA.val hU LP (i:=6) oa rfl);simp[go_sem,e23,e25,qb8 w1 (hA3 dS _ oa (EU _ oa))]
     | 7,ho=>
      simp at ho;refine Zq (by simp;exact ho) (by rw[<-ho]) ?_;subst ho;have dS:m.testBit 11=false:=by
       cases hc:m.testBit 11 with
       | false=>rfl
       | true=>rw[QG 11 hc 7 oo]at hb;cases hb
      refine vg (v:=.pointer (some ⟨wr.heap.size,0,none⟩)) (w':=w1) ?_ (UA.val hU LP (i:=7) oa rfl);simp[go_sem,e7]
     | 8,ho=>
      simp at ho;refine Zq (by simp;exact ho) (by rw[<-ho]) ?_;subst ho;have dS:m.testBit 11=false:=by
       cases hc:m.testBit 11 with
       | false=>rfl
       | true=>rw[QG 11 hc 8 oo]at hb;cases hb
      have e27:=nf.ins 7 _ (F9 7 oo) rfl;simp only[Nat.reduceAdd]at e27;refine vg (v:=.int .i64 n.id) (w':=w1) ?_ (UA.val hU LP (i:=8) oa rfl);simp[go_sem,e27,hc70 dS]
     | 9,ho=>
      simp at ho;refine Zq (by simp;exact ho) (by rw[<-ho]) ?_;subst ho;have dS:m.testBit 11=false:=by
       cases hc:m.testBit 11 with
       | false=>rfl
       | true=>rw[QG 11 hc 9 oo]at hb;cases hb
      have hb10:m.testBit 10=false:=by
       cases hc:m.testBit 10 with
       | false=>rfl
       | true=>rw[QG 10 hc 9 oo]at hb;cases hb
      obtain rfl:=hA4 hb;have e28:=nf.ins 8 _ (F9 8 oo) rfl;simp only[Nat.reduceAdd]at e28;have b9:(m ||| 2 ^ 9).testBit 9=true:=by rw[vx];simp
      have YC:(m ||| 2 ^ 9).testBit 10=false:=by rw[vx,hb10];rfl
      have Tq:(m ||| 2 ^ 9).testBit 11=false:=by rw[vx,dS];rfl
      refine vg (v:=.slice (some ⟨w1.heap.size,0,none⟩) 1 1) (w':=w1.alloc (.cells #[.int .i64 n.id] 3)) ?_ ⟨v',rfl,nf.put (i:=9) rfl (by simp[LP]),fun _ b hb' qH=>(Below.heap_alloc w1 _ b hb').trans (hA3 dS b hb' qH),fun h=>(by rw[b9]at h;cases h),fun _ _=>rfl,fun h=>(by rw[YC]at h;cases h),fun h=>(by rw[Tq]at h;cases h)⟩;simp[go_sem,e28]
     | 10,ho=>
      simp at ho;refine Zq (by simp;exact ho) (by rw[<-ho]) ?_;subst ho;have dS:m.testBit 11=false:=by
       cases hc:m.testBit 11 with
       | false=>rfl
       | true=>rw[QG 11 hc 10 oo]at hb;cases hb
      have e26:=nf.ins 6 _ (F9 6 oo) rfl;simp only[Nat.reduceAdd]at e26;have e29:=nf.ins 9 _ (F9 9 oo) rfl;simp only[Nat.reduceAdd]at e29;obtain rfl:=hA5 (F9 9 oo) hb;obtain⟨i0,hi,AX,AW,xL⟩:=P4;have b9:(m ||| 2 ^ 10).testBit 9=true:=by rw[vx,F9 9 oo];rfl
      have YC:(m ||| 2 ^ 10).testBit 10=true:=by rw[vx];simp
      have Tq:(m ||| 2 ^ 10).testBit 11=false:=by rw[vx,dS];rfl
      obtain⟨v'',w',hr,h1,h2,h3,h4⟩:=run_append_own_at (P:=pP) (W0.alloc (.cells #[.int .i64 n.id] 3)) (w.heap.size+3) 31 31 3 i0 (.int .i64 0) 1 8 underlying31 hi AX AW xL rfl oo v zs.length (zs.map (Value.int .i64)) (F5.1.alloc _) ⟨W0.heap.size,0,none⟩ 1 1 [.int .i64 n.id] rfl (cell_one_new _ _ _) (ints_oneCell .i64 [n.id]) (by unfold maxLen;omega) oa ot;refine vg (v:=v'') (w':=w') ?_ ⟨v'',rfl,(nf.turn (vals':=[.map (some (w.heap.size+1)),.pointer (some ⟨wr.heap.size,2,none⟩),.int .i64 n.par,.map (some (w.heap.size+1)),.pointer (some ⟨wr.heap.size,2,none⟩),.int .i64 n.par,v,.pointer (some ⟨wr.heap.size,0,none⟩),.int .i64 n.id,.slice (some ⟨W0.heap.size,0,none⟩) 1 1,v'']) rfl (fun i hi=>?_)).put (i:=10) rfl (by simp[LP]),fun _ b hb' qH=>(h2.block b ot qH).trans (hA3 dS b hb' qH),fun h=>(by rw[b9]at h;cases h),fun _ h=>(by rw[YC]at h;cases h),fun _ _=>⟨h2,h1,by simpa using h4⟩,fun h=>(by rw[Tq]at h;cases h)⟩
      ·simp only[execOp,resolve,invoke,builtin,wq,Sem.run_pure,Result.andThen_ok,jL,wo,wm,Yp e26,Yp e29,hr]
      ·match i with
       | 0|1|2|3|4|5|6|7|8|9=>rfl
       | 10=>rw[hb]at hi;cases hi
       | _+11=>rfl
     | 11,ho=>
      simp at ho;refine Zq (by simp;exact ho) (by rw[<-ho]) ?_;subst ho;have e20:=nf.ins 0 _ (F9 0 oo) rfl;simp only[Nat.reduceAdd]at e20;have e22:=nf.ins 2 _ (F9 2 oo) rfl;simp only[Nat.reduceAdd]at e22;have e30:=nf.ins 10 _ (F9 10 oo) rfl;simp only[Nat.reduceAdd]at e30;obtain⟨h1,h2,h3⟩:=hA6 (F9 10 oo) hb;have hoi2:=F5.appended h2 hwfn.1;obtain⟨w2,hr,h4,h5⟩:=Fc w1 v' (zs++[n.id]) ((World.grownBy_alloc W0 (.cells #[.int .i64 n.id] 3) v.ownBlock).trans h1) hoi2 ot (h3.imp (fun h=>h) fun h=>⟨_,h,oa⟩);have b9:(m ||| 2 ^ 11).testBit 9=true:=by rw[vx,F9 9 oo];rfl
      have YC:(m ||| 2 ^ 11).testBit 10=true:=by rw[vx,F9 10 oo];rfl
      have Tq:(m ||| 2 ^ 11).testBit 11=true:=by rw[vx];simp
      have qd2:UA W0 T (w.heap.size+1) wr.heap.size (w.heap.size+3) n v zs fin (m ||| 2 ^ 11) ⟨t,[]⟩ w2:=⟨v',rfl,nf.skip oh,fun h=>(by rw[Tq]at h;cases h),fun h=>(by rw[b9]at h;cases h),fun _ h=>(by rw[YC]at h;cases h),fun _ h=>(by rw[Tq]at h;cases h),fun _=>by rw[na];exact⟨w1,v',h1,hoi2,h4,h5⟩⟩;unfold Oper.wp;simp[go_sem,e20,e22,e30,hr];exact qd2
     | _+12,ho=>simp at ho
    ·intro a w2 hA;obtain⟨v',hA1,nf,_,_,_,_,hA7⟩:=hA;obtain⟨t,ds⟩:=a;simp only at hA1 nf;subst hA1;have ht:=nf.all (by simp[LP]) (fun i hi=>by
      match i,hi with
      | 0,_|1,_|2,_|3,_|4,_|5,_|6,_|7,_|8,_|9,_|10,_=>decide)
     rw[hT]at ht;simp only[wV,wy,yh,yC,wD,wI,wW,wT,Nat.reduceAdd]at ht;have hf:=hA7 oo;rw[na]at hf;obtain⟨w1,v'',g1,g2,g3,g4⟩:=hf;subst ht;clear hT nf hA7 qS qb8 Fc EY hT5 hT7 LP;go_wp2;have zW:=(World.grownBy_alloc W0 (.cells #[.int .i64 n.id] 3) v.ownBlock).trans g1;have hvb: ∀b,b<w.heap.size+3->some b≠v.ownBlock:=fun b hb e=>by have:=(F5.1.lt b e.symm).1;omega
     have mV:=zW.size;have rG:=g4.size;have mY: ∀b,b<w.heap.size+3->b≠w.heap.size+1->w2.heap[b]? =wr.heap[b]? :=fun b hb qH=>
      (g4.block b oa (by simpa using qH)).trans ((zW.block b oa (hvb b hb)).trans (Ye.block b oa oh))
     have hmp:IsMap D:=by obtain⟨es,clock,_,_,_,hD,_⟩:=eM;exact⟨_,hD⟩
     have hzk:=JC F5 (gg.symm.trans (hdat n.par VB));refine⟨⟨k+1,oa,rfl,⟨_,g3,fun x hx=>?_⟩,?_,(mY _ oa oa).trans hI.doc,(mY _ oa oa).trans hI.map,oa⟩,by simp only[intOf];omega⟩
     ·rw[Hu hn];by_cases hpx:n.par=x
      ·subst hpx;rw[atKey_put_same hmp (Tryz.keyed3.key (keyOf_int_mk underlying3 VB)),ae rfl,g2.datum_pos oh,hzk];unfold qfS;rw[j7 oh]
      ·rw[atKey_put_other (by simpa using fun h=>hpx h.symm),j7 hpx];exact hdat x hx
     ·have hb0:Below w.heap.size w W0:=hI.below.trans ⟨Ye.os,Ye.tape,Ye.output,Ye.size,fun b hb=>Ye.block b oa oh⟩;exact hb0.groups F5 zW g4 oa oa oa
   ·have:k=d.notes.length:=by omega
    subst this;have hlt':((d.notes.length:Int)<(d.notes.length:Int))=False:=oh;have b0:=yB hI.doc 0;have b1:=yB hI.doc 1;have b2:=yB hI.doc 2;have b3:=yB hI.doc 3;have b4:=yB hI.doc 4;have b5:=yB hI.doc 5;have b6:=yB hI.doc 6;simp only[yI,yk,yS]at b0 b1 b2 b3 b4 b5 b6;have hkr:KOk wr K:=aP hk hI.below;have hG:=uR d id oa;rw[hNb]at hG;unfold DCalls at hG;have hG:=hG.2 wr K #[.agg #[v0,v1,v2,v3,v4,v5,.slice A d.notes.length cap],.int .i64 id] hkr rfl (fun j dd v h1 h2=>by
     match j with
     | 0=>simp at h1 h2;subst h1;subst h2;exact hdv.mono ⟨fun b o h=>⟨h,hI.below.cell (p:=⟨b,o,none⟩) (qP (hk b o h))⟩,rfl,rfl⟩
     | 1=>simp at h1 h2;subst h1;subst h2;exact .one _ _ (.c _ _ (.lit _ rfl))
     | _+2=>simp at h1)
    go_wp2_with (go_at_call 45;refine hG.mono ?_);clear b0 b1 b2 b3 b4 b5 b6 hG;rintro e W1 vr rfl E1 hR1 hvr;obtain rfl:vr= .tuple #[.agg #[.int .i64 N.id,.int .i64 N.tier,.int .i64 N.par,.int .i64 N.fr,.int .i64 N.tg,.int .i64 N.rank,.string N.txt],.bool bb]:=by
     cases hvr with|tup ds vs hl hr=>
      obtain⟨va,vb,rfl⟩: ∃va vb,vs= #[va,vb]:=by
       match vs,hl with
       | ⟨[va,vb]⟩,_=>exact⟨va,vb,rfl⟩
      rw[(hr 1 _ vb rfl rfl).lit];have h0:=hr 0 _ va rfl rfl;cases h0 with|agg ts vs hl hr0=>
       obtain⟨a0,a1,a2,a3,a4,a5,a6,rfl⟩: ∃a0 a1 a2 a3 a4 a5 a6,vs= #[a0,a1,a2,a3,a4,a5,a6]:=by
        match vs,hl with
        | ⟨[a0,a1,a2,a3,a4,a5,a6]⟩,_=>exact⟨_,_,_,_,_,_,_,rfl⟩
       rw[(VD.one _ _ (hr0 0 _ a0 rfl rfl)).lit,(VD.one _ _ (hr0 1 _ a1 rfl rfl)).lit,(VD.one _ _ (hr0 2 _ a2 rfl rfl)).lit,(VD.one _ _ (hr0 3 _ a3 rfl rfl)).lit,(VD.one _ _ (hr0 4 _ a4 rfl rfl)).lit,(VD.one _ _ (hr0 5 _ a5 rfl rfl)).lit,(VD.one _ _ (hr0 6 _ a6 rfl rfl)).lit]
    have Yi:Below w.heap.size w W1:=hI.below.trans (hR1.below.mono (by have:=hI.size;omega));have iD:=hR1.below.size;have hs0:=hI.size;clear hvr;cases bb
    ·go_wp2;have lJ:Below w.heap.size w (W1.alloc (.cells #[.int .i64 N.id,.int .i64 N.tier,.int .i64 N.par,.int .i64 N.fr,.int .i64 N.tg,.int .i64 N.rank,.string N.txt] 122)):=Yi.alloc oa _;have hns: ∀n b o,¬zP ((E0 K).val n) b o:=fun n b o ⟨a,len,cap,h1,_⟩=>by simp[E0]at h1
     go_ret
     exact⟨_,rfl,E0 K,⟨lJ,fun _ _ h=>h,fun _ _ _ h=>h,aP hk lJ,fun n b o hs=>ak hs (hns n b o),fun n m b o hs=>ak hs (hns n b o)⟩,.one _ _ (.c _ _ (.nil 1))⟩
    ·obtain⟨W,hW⟩: ∃x,x=((W1.alloc (.cells #[.int .i64 N.id,.int .i64 N.tier,.int .i64 N.par,.int .i64 N.fr,.int .i64 N.tg,.int .i64 N.rank,.string N.txt] 122)).alloc (.cells #[.slice none 0 0] 31)).alloc (.cells #[.func (.func 130) #[] #[.pointer (some ⟨w.heap.size+1+1,0,none⟩),.pointer (some ⟨W1.heap.size+1,0,none⟩),.pointer (some ⟨W1.heap.size+1+1,0,none⟩)]] 217):=⟨_,rfl⟩;have hsW:W.heap.size=W1.heap.size+3:=by rw[hW];simp
     have hWo: ∀b,b<W1.heap.size->W.heap[b]? =W1.heap[b]? :=fun b hb=>by rw[hW,Qq,j7 ot,Qq,j7 ot,Qq,j7 oa]
     have hWr: ∀b,b<wr.heap.size->W.heap[b]? =wr.heap[b]? :=fun b hb=>(hWo b oa).trans (hR1.below.block b hb);have hbW:Below w.heap.size w W:=Yi.trans (by rw[hW];exact(((Below.refl _ W1).alloc oa _).alloc ot _).alloc ot _);obtain⟨D,eM,hdat⟩:=hI.own;have hB:UBase W (w.heap.size+1+1) (W1.heap.size+1) (W1.heap.size+1+1) (w.heap.size+1) fun x=>(d.notes.filter fun n=>n.par==x).map (·.id):=by
      refine⟨(hWr _ oa).trans hI.map,?_,fun x hx=>?_,oa,oa,oa,oa,oa⟩
      ·rw[hW,Qq,ae oh]
      ·obtain⟨v,zs,gg,F5,qS⟩:=rJ eM Tryz.keyed3 (t:=216) (E:=31) underlying216 Tryz.zero_ints (key:=.int .i64 x) (kl:=.int .i64 x) (keyOf_int_mk underlying3 hx);have hz:=JC F5 (gg.symm.trans (hdat x hx));rw[wc]at hz;subst hz;rcases F5.1.2 with⟨rfl,h0⟩|⟨g,c,cur,rfl,hg,hh,hnc,_,nP,qs⟩
       ·refine⟨none,0,fun W' hW'=>?_,fun k y hy=>?_⟩
        ·rw[qS W' (hW'.trans (hWr _ oa))];show _=Result.ok (Value.slice none (fW d.notes x).length 0) W';rw[h0]
        ·have:fW d.notes x= []:=j0.1 h0;unfold fW at this;rw[this]at hy;cases hy
       ·have hgl:g<wr.heap.size:=(wH.1 hh).1;refine⟨some ⟨g,0,none⟩,c,fun W' hW'=>qS W' (hW'.trans (hWr _ oa)),fun k y hy=>⟨g,0,rfl,?_,oa,oa⟩⟩;have hk:k<(fW d.notes x).length:=(wg.1 hy).1;have:cur[k]? =some (.int .i64 y):=by have h1:=af (fun l:List j6=>l[k]?) qs;simp only[wh,Nat.mul_one]at h1;rw[jt hk]at h1;have h2:(fW d.notes x)[k]? =some y:=hy;rw[h2]at h1;simpa using h1
        have hgW:=(hWr g hgl).trans hh;rw[yi];exact(yB hgW k).trans this
     have hI0:UInv W W (W1.heap.size+1) []:=⟨rfl,rfl,rfl,wl _,fun _ _ _=>rfl,.slice none 0 0,by rw[hW,Qq,j7 oh,Qq,ae oh],World.ownsInts_nil _ _ _ _⟩;have hU:=(callsIn_wide (n:=0)).1 (me d.notes W _ _ _ _ hB (fun n hn=>(aM n hn).1) F id hid hF W [] hI0 (by simpa using hlF));rw[hW]at hU;go_wp2_with (go_at_call 130;refine hU.mono ?_);rintro e W2 ⟨⟨v3,rfl⟩,hI2⟩;rw[<-hW]at hI2;rw[wI]at hI2;have qcg:Below w.heap.size w W2:=hbW.trans ⟨hI2.os,hI2.tape,hI2.output,hI2.size,fun b hb=>hI2.old b oa oa⟩;obtain⟨v,xZ,HC⟩:=hI2.cur;have hsW2:=hI2.size;obtain⟨KK,hKK⟩: ∃KK:qM,KK=fun b o=>K b o\/(w.heap.size<=b/\(W2.cell? ⟨b,o,none⟩).isSome=true):=⟨_,rfl⟩
     have hcK: ∀b o,K b o->W2.cell? ⟨b,o,none⟩=w.cell? ⟨b,o,none⟩:=fun b o h=>qcg.cell (p:=⟨b,o,none⟩) (qP (hk b o h));have F8:KOk W2 KK:=hk.wide (fun b o h=>⟨by rw[hKK];exact .inl h,hcK b o h⟩) (fun b o h=>by
      rw[hKK]at h;rcases h with h|h
      ·rw[hcK b o h];exact hk b o h
      ·exact h.2) (hk.z.below qcg)
     have XT:VC W2 KK (.sl 1 (ints (cL d.notes F id))) v:=by
      rcases HC.1.2 with⟨rfl,h0⟩|⟨g,c,cur,rfl,hg,hh,hnc,VS,nP,qs⟩
      ·rw[j0.1 h0];exact .nil 1
      ·generalize cL d.notes F id=l at*
       have QE: ∀j (hj:j<l.length),W2.cell? ⟨g,j,none⟩=some (.int .i64 l[j]):=fun j hj=>by rw[yB hh j];have h1:=af (fun x:List j6=>x[j]?) qs;simp only[wh,Nat.mul_one]at h1;rw[jt hj,wa hj]at h1;simpa using h1
       have:=VC.sl (w:=W2) (K:=KK) 1 (ints l) ⟨g,0,none⟩ c (fun j=>.int .i64 (l.getD j 0))
        (fun r hr=>by simp only[ints,wN]at hr;obtain⟨b,_,rfl⟩:=hr;rfl) (by simpa[ints]using hnc) VS
        (fun j hj=>by
         have hj':j<l.length:=by simpa[ints]using hj
         simp only[yi];refine⟨trivial,by rw[hKK];exact .inr ⟨oa,by rw[QE j hj'];rfl⟩,?_⟩;rw[QE j hj'];simp[List.getD,hj'])
        (fun i j r c h1 h2=>by
         simp only[ints,wh]at h1;cases hb:l[i]? with
         | none=>rw[hb]at h1;cases h1
         | some b=>
          rw[hb]at h1;injection h1 with h1;subst h1
          cases j with
          | zero=>
           simp at h2;subst h2;have:l.getD (i*1+0) 0=b:=by simp[List.getD,hb]
           rw[this];exact .lit _ rfl
          | succ j=>simp at h2)
       simpa[ints]using this
     have c10:=yB xZ 0;simp only[yI,yk]at c10;have hS:=sorted_D (cL d.notes F id) hlF;unfold DCalls at hS;have hS:=hS.2 W2 KK #[v] F8 rfl (fun j dd u h1 h2=>by
      match j with
      | 0=>simp at h1 h2;subst h1;subst h2;exact .one _ _ (.c _ _ XT)
      | _+1=>simp at h1)
     clear hU hB hI0 eM hdat hI2 HC XT hW hWo hWr;go_wp2_with (go_at_call 40;refine hS.mono ?_);rintro e W3 ⟨vS,E3,rfl,hR3,hvS⟩;have hbW3:Below w.heap.size w W3:=qcg.trans (hR3.below.mono oa);go_wp2
     go_ret
     refine⟨_,rfl,E3,⟨hbW3,fun b o h=>hR3.kin b o (by rw[hKK];exact .inl h),fun b o hb h=>?_,hR3.kok,fun n b o hs=>?_,hR3.disj⟩,hvS⟩
     ·have:=hR3.kold b o oa h;rw[hKK]at this;rcases this with h|h
      ·exact h
      ·omega
     ·obtain⟨h1,h2,h3⟩:=hR3.free n b o hs;exact⟨oa,h2,h3⟩
def TT(d:Dcm)(id:Int)(F:Nat)(hl:d.notes.length<=1000000)(aM: ∀n∈d.notes,(Lit.int .i64 n.id).wf=true/\(Lit.int .i64 n.par).wf=true)(hid:(Lit.int .i64 id).wf=true)(hF:NU d.notes F id)(hlF:(cL d.notes F id).length<=1000000):
  DCalls pP 70 [.agg d.row,dv (li id)] (dv (.sl 1 (ints (if(qI d.notes id).2=true then usort (cL d.notes F id)else [])))):=by
 unfold DCalls;refine⟨om,fun w K vs hk vo hv=>?_⟩;obtain⟨va,vb,rfl⟩: ∃va vb,vs= #[va,vb]:=by
  match vs,vo with
  | ⟨[va,vb]⟩,_=>exact⟨va,vb,rfl⟩
 have h1:=(hv 1 _ vb rfl rfl).lit;have h0:=hv 0 _ va rfl rfl;subst h1;obtain⟨a0,a1,a2,a3,a4,a5,a6,rfl⟩: ∃a0 a1 a2 a3 a4 a5 a6,va= .agg #[a0,a1,a2,a3,a4,a5,a6]:=by
  cases h0 with|agg ts vs hl hr=>
   match vs,hl with
   | ⟨[a0,a1,a2,a3,a4,a5,a6]⟩,_=>exact⟨_,_,_,_,_,_,_,rfl⟩
 exact Dx d id hl aM hk h0 F hid hF hlF
end
def ue: ∀{l m:List Int},l.Nodup->(∀x∈l,x∈m)->l.length<=m.length
 | [],_,_,_=>wM _
 | a::l,m,h,hs=>by have ⟨h1,h2⟩:=jE.1 h;have ha:a∈m:=hs a oh;have:=ue (m:=m.erase a) h2 fun x hx=>(List.mem_erase_of_ne (fun e=>h1 (by rw[<-e];exact hx))).2 (hs x (by simp[hx]));rw[List.length_erase_of_mem ha]at this;have:0<m.length:=List.length_pos_of_mem ha;simp only[wW];omega
section
variable {cov:List Nte->Nte->Prop} {tx:ByteArray->Prop} {d:Dcm} {p:Plc} (H:NtsA cov tx d) (T:TrsA d.tiers p)
include H T
theorem ic: ∀{f:Nat} {q:Nte} {x:Int},q∈d.notes->x∈cL d.notes f q.id->∃n∈d.notes,n.id=x/\q.tier<n.tier
 | 0,_,_,_,h=>by cases h
 | f+1,q,x,hq,h=>by
  simp only[cL,List.mem_flatMap,yR,wJ,aq]at h;obtain⟨n,⟨hn,hp⟩,h⟩:=h;have ht:=(cj H T hn hq hp).2;rcases h with rfl|h
  ·exact⟨n,hn,rfl,ht⟩
  ·obtain⟨m,hm,h1,h2⟩:=ic hn h;exact⟨m,hm,h1,oa⟩
theorem Mk{j:Nat}{q:Nte}{x:Int}(hq:q∈d.notes)(h:JW d.notes q.id j x): ∃n∈d.notes,n.id=x/\q.tier<n.tier:=ic H T (f:=j+1) hq (mem_col.2 ⟨j,Nat.lt_succ_self _,h⟩)
theorem sU{c c' k:Nte}(hc:c∈d.notes)(hc':c'∈d.notes)(hk:k∈d.notes)(h:c.par=k.id)(h':c'.par=k.id): ∀j,¬JW d.notes c'.id j c.id
 | 0,⟨m,hm,h1,h2⟩=>by
  rw[zL H.up hm hc h2,h]at h1;rw[zL H.up hk hc' h1]at h';have:=(cj H T hc' hc' h').2;omega
 | j+1,⟨m,hm,h1,h2⟩=>by rw[zL H.up hm hc h1,h]at h2;obtain⟨n,hn,e,ht⟩:=Mk H T hc' h2;rw[zL H.up hn hk e]at ht;have:=(cj H T hc' hk h').2;omega
theorem JQ{c c' k:Nte}(hc:c∈d.notes)(hc':c'∈d.notes)(hk:k∈d.notes)(h:c.par=k.id)(h':c'.par=k.id): ∀(j j':Nat) (x:Int),JW d.notes c.id j x->JW d.notes c'.id j' x->c.id=c'.id
 | 0,0,x,⟨n,hn,h1,h2⟩,⟨m,hm,h3,h4⟩=>by
  rw[zL H.up hm hn (h4.trans h2.symm)]at h3;omega
 | 0,j'+1,x,⟨n,hn,h1,h2⟩,⟨m,hm,h3,h4⟩=>by
  rw[zL H.up hm hn (h3.trans h2.symm),h1]at h4;exact ak h4 (sU H T hc hc' hk h h' _)
 | j+1,0,x,⟨n,hn,h1,h2⟩,⟨m,hm,h3,h4⟩=>by
  rw[zL H.up hn hm (h1.trans h4.symm),h3]at h2;exact ak h2 (sU H T hc' hc hk h' h _)
 | j+1,j'+1,x,⟨n,hn,h1,h2⟩,⟨m,hm,h3,h4⟩=>by rw[zL H.up hm hn (h3.trans h1.symm)]at h4;exact JQ hc hc' hk h h' j j' _ h2 h4
theorem Bo: ∀(f:Nat) {q:Nte},q∈d.notes->(cL d.notes f q.id).Nodup
 | 0,_,_=>List.nodup_nil
 | f+1,q,hq=>by
  simp only[cL];rw[jT,List.pairwise_flatMap];refine⟨fun n hn=>?_,?_⟩
  ·obtain⟨hn,hp⟩:=yR.1 hn;rw[<-jT,jE];refine⟨fun h=>?_,Bo f hn⟩;obtain⟨m,hm,h1,h2⟩:=ic H T hn h;rw[zL H.up hm hn h1]at h2;omega
  ·refine List.Pairwise.imp_of_mem ?_ ((dE H.up).sublist List.filter_sublist);intro a b ha hb Fe x hx y hy e;subst e;obtain⟨ha,pa⟩:=yR.1 ha;obtain⟨hb,pb⟩:=yR.1 hb;have pa:a.par=q.id:=by simpa using pa
   have pb:b.par=q.id:=by simpa using pb
   refine Fe (zL H.up ha hb ?_);rcases wJ.1 hx with e1|e1<;>rcases wJ.1 hy with e2|e2
   ·omega
   ·obtain⟨j,_,hj⟩:=mem_col.1 e2;rw[e1]at hj;exact ak hj (sU H T ha hb hq pa pb _)
   ·obtain⟨j,_,hj⟩:=mem_col.1 e1;rw[e2]at hj;exact ak hj (sU H T hb ha hq pb pa _)
   ·obtain⟨j,_,hj⟩:=mem_col.1 e1;obtain⟨j',_,hj'⟩:=mem_col.1 e2;exact JQ H T ha hb hq pa pb j j' x hj hj'
theorem CO(f:Nat){q:Nte}(hq:q∈d.notes):(cL d.notes f q.id).length<=d.notes.length:=by
 have:=ue (m:=d.notes.map (·.id)) (Bo H T f hq) fun x hx=>by obtain⟨n,hn,h1,_⟩:=ic H T hq hx;exact wN.2 ⟨n,hn,h1⟩
 simpa using this
theorem II: ∀(f:Nat) {q:Nte},q∈d.notes->(d.tiers.length:Int)<=q.tier+f+1->NU d.notes f q.id
 | 0,q,hq,h=>fun n hn e=>by
  have h1:=(cj H T hn hq e).2;obtain⟨_,t,ht,_⟩:=H.note n hn;have:=(zk ht).2.2;omega
 | f+1,q,hq,h=>fun n hn e=>by have h1:=(cj H T hn hq e).2;exact II f hn oa
end
structure GoodD(cov:List Nte->Nte->Prop)(tx:ByteArray->Prop)(d:Dcm):Prop where
 nts:NtsA cov tx d
 trs:TrsA d.tiers (qh d)
 few:SP d
 notes:d.notes.length<=300
 tiers:d.tiers.length<=1000000
 txt: ∀n∈d.notes,n.txt.size<=1048576
section
variable {cov:List Nte->Nte->Prop} {tx:ByteArray->Prop} {d:Dcm} (h:GoodD cov tx d)
include h
theorem GoodD.kid14(id t:Int):(d.kidN id t).length<=14:=by
 rw[Zz];split
 ·rw[(aL _ _).length_eq];exact h.few t id
 ·exact wM _
theorem GoodD.ready:QM (qh d)=true:=by
 obtain⟨t,h1,h2,h3⟩:=h.trs.m;obtain⟨t',g1,g2,g3⟩:=h.trs.g;have a1:=(zk h1).1;have a2:=(zk g1).1;rcases h.trs.par' h1 with e|e
 ·omega
 ·unfold QM;simp only[we,aj];exact⟨⟨oa,a1⟩,a2⟩
theorem GoodD.gls:GlsD d:=⟨h.tiers,by have:=h.notes;omega,fun id t=>by have:=h.kid14 id t;omega,h.txt,h.ready⟩
theorem GoodD.kids:KidsOk d where
 notes:=by have:=h.notes;omega
 tiers:=h.tiers
 kids:=fun id t=>by have:=h.kid14 id t;omega
 ofs:=fun f t=>by
  have:=ue (m:=d.notes.map (·.id)) (bf h.nts f t) fun x hx=>by obtain⟨n,hn,h1,_⟩:=uk hx;exact wN.2 ⟨n,hn,h1⟩
  have:=h.notes;simp at *;omega
 par:=h.trs.par
theorem GoodD.rng(hn:n∈d.notes):(0<=n.id/\n.id<=1099511627776)/\0<=n.par/\n.par<=1099511627776:=by
 have h1:=h.nts.id n hn;obtain⟨_,t,ht,hp,_⟩:=h.nts.note n hn;refine⟨oa,?_⟩;by_cases e:t.kind=0
 ·rw[hp.root e];omega
 ·obtain⟨p1,_⟩:=hp.par e;unfold qI at p1;cases hf:d.notes.find? (fun m=>m.id==n.par)with
  | none=>rw[hf]at p1;cases p1
  | some m=>
   have h2:=h.nts.id m (jD hf);have h3:=List.find?_some hf;simp only[aq]at h3;omega
end
def Gi{x:Int}(h:0<=x/\x<=1099511627776):(Lit.int .i64 x).wf=true:=by
 have h1:IntKind.i64.min<=x:=by have:IntKind.i64.min= -9223372036854775808:=(by decide);omega
 have h2:x<=IntKind.i64.max:=by have:IntKind.i64.max=9223372036854775807:=(by decide);omega
 simp only[Lit.wf,we,aj];exact⟨h1,h2⟩
section
variable {cov:List Nte->Nte->Prop} {tx:ByteArray->Prop} {d:Dcm} (h:GoodD cov tx d)
include h
theorem IF(hn:n∈d.notes):DCalls pP 70 [.agg d.row,dv (li n.id)] (dv (.sl 1 (ints (S.usort (aQ d n.id))))):=by
 have:=TT d n.id d.tiers.length (by have:=h.notes;omega) (fun m hm=>⟨Gi (h.rng hm).1,Gi (h.rng hm).2⟩) (Gi (h.rng hn).1) (II h.nts h.trs _ hn (by obtain⟨_,t,ht,_⟩:=h.nts.note n hn;have:=(zk ht).1;omega))
  (by have:=CO h.nts h.trs d.tiers.length hn;have:=h.notes;omega)
 rw[zH h.nts.up hn]at this;exact this
theorem qc5(w:Int):Se d w (fun k=>S.usort (aQ d k))=cD d (qh d) w:=by
 unfold Se cD;rw[h.ready,j7 oh];have e:((qI d.notes w).2&&(qI d.notes w).1.tier==(qh d).w)=vK d (qh d) w:=rfl;rw[e];cases vK d (qh d) w
 ·rfl
 ·rw[j7 oh,ae rfl];have: ∀n:Nte,((Af d w fun k=>S.usort (aQ d k)).any fun x=>n.id==x)=zb d (qh d) w n:=fun n=>by
   unfold Af zb;rw[List.any_flatMap];congr 1;funext k;rw[List.any_cons];congr 1;rw[y8,yK,yK];constructor
   ·rintro⟨x,hx,e⟩;exact⟨x,(Qj _).2 x |>.1 hx,e⟩
   ·rintro⟨x,hx,e⟩;exact⟨x,(Qj _).2 x |>.2 hx,e⟩
  simp only[this];rfl
theorem FH(w:Int):DCalls pP 35 [.agg d.row,dv (li w)] (.tup [.agg (cD d (qh d) w).1.row,dv (li (cD d (qh d) w).2)]):=by
 have:=Wr d w (fun k=>S.usort (aQ d k)) (by have:=h.tiers;omega) (by have:=h.notes;omega) (by have:=h.kid14 w (qh d).m;omega) fun k hk=>by
  obtain⟨n,hn,rfl,_⟩:=dL hk;refine⟨IF h hn,?_⟩;have h1:=S.usort_len (aQ d n.id);have h2:=CO h.nts h.trs d.tiers.length hn;have h3:=h.notes;unfold aQ at*
  omega
 rw[qc5 h]at this;exact this
end
section
attribute [local go_sem] vp Nte.row Nte.enc underlying100 List.getElem?_toArray List.getElem?_cons_zero List.getElem?_cons_succ
namespace Clr
abbrev pl35:Dl.PL:=fun|7=> Dl.ll 0 8 []|_=>[]
def clear_E(d:Dcm)(w:Int)(U:Int->List Int)(hl:d.tiers.length<=1048576)(hn:d.notes.length<=1000000)(uL:(d.kidN w (qh d).m).length<=19)(hU: ∀k∈d.kids w (qh d).m,DCalls pP 70 [.agg d.row,dv (li k)] (dv (.sl 1 (ints (U k))))/\(U k).length<=20000)
  (qdU:QM (qh d)=true) (QC:vK d (qh d) w=true):
  ECalls pP 35 [.agg d.row,dv (li w)] (ml []) (fun r H'=>∃j,r= .tup [.agg [.c (li d.rc.id),.c (ls d.rc.name),.c (li d.rc.len),.c (li d.rc.day),.c (.sl 1 (ints d.rc.sp)),.c (.sl 4 (d.tiers.map Tir.enc)),.ba 0 7 0 (d.notes.filter fun n=> !((Af d w U).any fun x=>n.id==x)).length ((d.notes.filter fun n=> !((Af d w U).any fun x=>n.id==x)).length+j)],dv (li 0)]/\
   AllM H' [(0,cr ((d.notes.filter fun n=> !((Af d w U).any fun x=>n.id==x)).map Nte.enc)++qa j 7)]):=by
 have qi:=qo;have hR:=dG d hl;have hG:=Cs d w hl oa;have hF:=cZ d hl;have hK:=oZ d w (qh d).m hn uL;unfold Af;rw[qdU]at hR;unfold vK at QC;generalize qh d=p at*
 obtain⟨pw,m,g⟩:=p;generalize qI d.notes w=nb at*
 obtain⟨n,b⟩:=nb;simp only at*
 rw[QC]at hG;clear QC qdU;have hks:(d.kids w m).length<=19:=by unfold Dcm.kids;rw[wn];exact uL
 generalize d.kids w m=ks at*
 simp only[Plc.row,Dcm.row,Nte.row]at*
 replace hU:Kp _:=⟨hU⟩;refine eX (N:=67) (rs:=[.cell 4 42,.tmp 5]) pl35 func35 ?_;repeat' first|refine kx hR ?_|refine kx hG ?_|refine kx hF ?_|refine kx hK ?_|refine gQ ?_|exact gU|refine gS ?_|exact gT|(first|apply xc|apply gf|apply gt)<;>intro hc
 clear hR hG hF hK;refine xo 8 8 1 ?_;refine lp ks [2,4,32,33] [2,4] (fun k=>[(8,.one (.own 8 1 (ints ((ks.take k).flatMap fun k=>k::U k)))),(34,dv (li k))]) (fun _=>[]) (fun k=>((ks.take k).flatMap fun k=>k::U k).length<=k*20001) oh ?_ ?_ (h0:=oB)
 ·intro k x hx bw hm qs qf hw hv;obtain⟨hUx,hUl⟩:=hU.1 x hm;have vO:(ks.take (k+1)).flatMap (fun k=>k::U k)=(ks.take k).flatMap (fun k=>k::U k)++x::U x:=og;rw[vO];generalize (ks.take k).flatMap (fun k=>k::U k)=q at*
  clear qs vO hm hU;have lE:(q.length+1)*8<=140737488355328:=oa;refine gS ?_;refine xd ?_;apply Zn (id:=10) (N:=67) [] [[],[],[1],[0,2],[],[],[4,5,3],[3,6,6],[7,7,0,1,2,3,4,5,6,7]] (.bl 0 (.bl 1 (.bl 5 (.two 2 (.two 3 (.run [4,6,7,8] .leaf) 4 (.run [3,6,7,8] .leaf)) 4 (.run [2,3,6,7,8] .leaf)))));kernel_rfl;rfl;kernel_rfl;kernel_rfl;refine gS ?_;have vh:(q++x::U x).length<=(k+1)*20001:=og;have Ac:ints (q++x::U x)=ints q++[li x]::ints (U x):=oh;have hro2:(q.length+1+(U x).length)*8<=140737488355328:=oa
  (repeat' apply And.intro)<;>(refine kq ?_;simp -implicitDefEqProofs only[go_sem, *])
  all_goals refine⟨by simp[ints];omega,?_⟩
  all_goals rw[wS]
  all_goals first|exact Zb|exact⟨vh,Zb⟩
 ·intro qf hv;rw[wc]at hv ⊢;generalize ks.flatMap (fun k=>k::U k)=L at*
  have hH:=fun x=>Co L x oa;clear hU;refine gB ?_;refine xz 11 0 7 ?_;refine S7 d.notes [2,4,8,48,49] [2,4] (fun k (j:Nat)=>[(11,.one (.ba 0 7 0 ((d.notes.take k).filter fun n=> !(L.any fun x=>n.id==x)).length (((d.notes.take k).filter fun n=> !(L.any fun x=>n.id==x)).length+j))),(50,dv (li k))]) (fun k j=>[(0,cr (((d.notes.take k).filter fun n=> !(L.any fun x=>n.id==x)).map Nte.enc)++qa j 7)]) (fun k _=>((d.notes.take k).filter fun n=> !(L.any fun x=>n.id==x)).length<=k) 0 oh ?_ ?_ (h0:=by simp +decide only[go_sem,wy,jJ,wT]) (hb0:=by simp +decide only[go_sem,wy,jJ,wm,xf,qa,List.replicate_zero,wI])
  ·intro k n j hx bw hm qs qf hw hv;have hHn:=hH n.id;have vO:((d.notes.take (k+1)).filter fun n=> !(L.any fun x=>n.id==x))=((d.notes.take k).filter fun n=> !(L.any fun x=>n.id==x))++(if(L.any fun x=>n.id==x)=true then []else [n]):=og;rw[vO];generalize ((d.notes.take k).filter fun n=> !(L.any fun x=>n.id==x))=q at*
   generalize (L.any fun x=>n.id==x)=bb at*
   clear qs vO hm hH;have lE:(q.length+1)*64<=140737488355328:=oa;have vo: ∀r∈q.map Nte.enc,r.length=7:=fun r hr=>by obtain⟨x,_,rfl⟩:=wN.1 hr;rfl
   cases bb
   ·refine gB ?_;refine StepC.mk (Step.appendList (n:=0) (sz:=7) (by_:=64) (rows:=cr (q.map Nte.enc)) (j:=j) (ys:=cr [n.enc]) rfl rfl oe (by simp +decide only[go_sem,qK,wn]) oe (nu vo) (srcEx oe) (by rw[qK,wn,qK];simp;omega) ?_);intro j';refine gB ?_;exact⟨j',ot,DS.Sub.trans (zB 62 0 oa) (qw rfl (by simp +decide only[go_sem,qK,wz,wn,wT,wW]) (by simp +decide only[go_sem,Qv,wS]))⟩
   ·refine gB ?_;exact⟨j,oa,qJ⟩
  ·intro j qf hv;rw[wc]at hv ⊢;refine gB ?_;exact⟨j,rfl,rfl⟩
end Clr
attribute [local go_sem] vp Nte.row Nte.enc
def Dcm.rowB(d:Dcm)(q n j:Nat):List T:=[.c (li d.rc.id),.c (ls d.rc.name),.c (li d.rc.len),.c (li d.rc.day),.c (.sl 1 (ints d.rc.sp)),.c (.sl 4 (d.tiers.map Tir.enc)),.ba q 7 0 n (n+j)]
def B2(q:Nat)(ns:List Nte)(j:Nat):List (Nat×Dl.Rows):=[(q,cr (ns.map Nte.enc)++qa j 7)]
attribute [local go_sem] Dcm.rowB B2
def qcs(d:Dcm)(ns:List Nte)(id:Int)(j q:Nat)(hq:NB<=q)(hl:ns.length<=1048576):ECalls pP 45 [.agg (d.rowB q ns.length j),dv (li id)] (ml (B2 q ns j)) (fun r H'=>r= .tup [.agg (qI ns id).1.row,dv (lb (qI ns id).2)]/\AllM H' (B2 q ns j)):=by
 have qi:=qo;have Rh:=qX;have q2: ¬q=2:=oa;have q4: ¬q=4:=oa;have q7: ¬q=7:=oa;have p2: ¬2=q:=oa;have p4: ¬4=q:=oa;have p7: ¬7=q:=oa;clear Rh;simp only[Dcm.rowB,B2];refine eX (N:=22) (rs:=[.cell 4 122,.tmp 5]) qg func45 ?_;refine gk ?_;refine lp ns [1,4,9,10] [4] (fun k=>[(11,dv (li k))]) (fun _=>[(q,cr (ns.map Nte.enc)++qa j 7)]) (fun k=>∀n∈ns.take k,(n.id==id)=false) oh ?_ ?_ (hb0:=oq) (hb:=by(simp +decide only[go_sem, *];rfl))
 ·intro k n hn hk hm qs qf hw hv;have hz:(cr (ns.map Nte.enc)++qa j 7)[k]? =some n.row:=by rw[iJ (x:=n.enc) (by rw[wh,hn];rfl)];rfl
  clear hm;refine gC ?_ ?_<;>intro hc
  ·simp[qI,sM hn hv hc]
  ·exact⟨iF hv hc,qJ⟩
 ·intro qf hv;rw[wc]at hv;refine gB ?_;simp[qI,sL hv,fi]
end
def Tryz.sortF_ren:Go.Shelf.Ren:=⟨fun|6=>75|15=>138|14=>137|28=>189|29=>190|20=>168|21=>182|22=>183|23=>184|24=>185|25=>186|26=>187|27=>188|46=>212|47=>213|48=>214|49=>215|50=>216|57=>242|n=>n,fun|22=>40|24=>122|25=>161|3=>3|39=>225|0=>0|53=>288|55=>290|4=>4|46=>282|45=>281|50=>196|5=>5|9=>9|66=>310|70=>314|76=>332|77=>293|n=>n,fun|n=>n⟩
def Tryz.sortF:Go.Proofs.SlLaysF0.n6 pP Tryz.sortF_ren:={
 mixed:=om
 f6:=⟨Tryz.f75.name,oo,func75.trans (af some om)⟩
 f14:=⟨Tryz.f137.name,oo,func137.trans (af some om)⟩
 f15:=func138.trans (af some om)
 f20:=⟨Tryz.f168.name,oo,func168.trans (af some om)⟩
 f21:=⟨Tryz.f182.name,oo,func182.trans (af some om)⟩
 f22:=⟨Tryz.f183.name,oo,func183.trans (af some om)⟩
 f23:=⟨Tryz.f184.name,oo,func184.trans (af some om)⟩
 f24:=⟨Tryz.f185.name,oo,func185.trans (af some om)⟩
 f25:=⟨Tryz.f186.name,oo,func186.trans (af some om)⟩
 f26:=⟨Tryz.f187.name,oo,func187.trans (af some om)⟩
 f27:=⟨Tryz.f188.name,oo,func188.trans (af some om)⟩
 f28:=func189.trans (af some om)
 f29:=func190.trans (af some om)
 f46:=⟨Tryz.f212.name,oo,func212.trans (af some om)⟩
 f47:=func213.trans (af some om)
 f48:=func214.trans (af some om)
 f49:=⟨Tryz.f215.name,oo,func215.trans (af some om)⟩
 f50:=⟨Tryz.f216.name,oo,func216.trans (af some om)⟩
 f57:=⟨Tryz.f242.name,oo,func242.trans (af some om)⟩
 t0:=underlying0
 a0:=Tryz.isAgg0
 z0:=Tryz.sizeOf0
 v0:=Tryz.zeroValue0
 t3:=underlying3
 a3:=Tryz.isAgg3
 z3:=Tryz.sizeOf3
 v3:=Tryz.zeroValue3
 t4:=underlying4
 a4:=Tryz.isAgg4
 z4:=Tryz.sizeOf4
 v4:=Tryz.zeroValue4
 t5:=underlying5
 a5:=Tryz.isAgg5
 z5:=Tryz.sizeOf5
 v5:=Tryz.zeroValue5
 t9:=underlying9
 a9:=Tryz.isAgg9
 z9:=Tryz.sizeOf9
 v9:=Tryz.zeroValue9
 t22:=underlying40
 a22:=Tryz.isAgg40
 z22:=Tryz.sizeOf40
 v22:=Tryz.zeroValue40
 t25:=underlying161
 a25:=Tryz.isAgg161
 z25:=Tryz.sizeOf161
 v25:=Tryz.zeroValue161
 t39:=underlying225
 a39:=Tryz.isAgg225
 z39:=Tryz.sizeOf225
 v39:=Tryz.zeroValue225
 t45:=underlying281
 a45:=Tryz.isAgg281
 z45:=Tryz.sizeOf281
 v45:=Tryz.zeroValue281
 t46:=underlying282
 a46:=Tryz.isAgg282
 z46:=Tryz.sizeOf282
 v46:=Tryz.zeroValue282
 t50:=underlying196
 a50:=Tryz.isAgg196
 z50:=Tryz.sizeOf196
 v50:=Tryz.zeroValue196
 t53:=underlying288
 a53:=Tryz.isAgg288
 z53:=Tryz.sizeOf288
 v53:=Tryz.zeroValue288
 t55:=underlying290
 a55:=Tryz.isAgg290
 z55:=Tryz.sizeOf290
 v55:=Tryz.zeroValue290
 t66:=underlying310
 a66:=Tryz.isAgg310
 z66:=Tryz.sizeOf310
 v66:=Tryz.zeroValue310
 t70:=underlying314
 a70:=Tryz.isAgg314
 z70:=Tryz.sizeOf314
 v70:=Tryz.zeroValue314
 t76:=underlying332
 a76:=Tryz.isAgg332
 z76:=Tryz.sizeOf332
 v76:=Tryz.zeroValue332
 t77:=underlying293
 a77:=Tryz.isAgg293
 z77:=Tryz.sizeOf293
 v77:=Tryz.zeroValue293 }
open Go.Sort Go.Lib
def xV(n:Nte):List Value:=[.int .i64 n.id,.int .i64 n.tier,.int .i64 n.par,.int .i64 n.fr,.int .i64 n.tg,.int .i64 n.rank,.string n.txt]
def K7(x:Int)(W:j5):Calls pP 139 #[.int .i64 x] W fun e w'=>e= .returned (.bool false)/\w'=W:=by
 go_enter func139,ntmps139
 go_wp2
 go_ret
 exact⟨oh,rfl⟩
set_option maxRecDepth 100000 in
def Ib(x y:Int)(W:j5):Calls pP 77 #[.int .i64 x,.int .i64 y] W fun e w'=>e= .returned (.int .i64 (if x<y then -1 else if y<x then 1 else 0))/\w'=W:=by
 have hn:=K7
 go_enter func77,ntmps77
 go_wp2_with (go_at_call 139;refine(hn _ _).mono ?_;rintro e w' ⟨rfl,rfl⟩);all_goals(go_ret;exact⟨rfl,rfl⟩)
abbrev Ia(x y:Nte):Int:=if x.id<y.id then -1 else if y.id<x.id then 1 else 0
set_option maxRecDepth 100000 in
def Fq(x y:Nte)(W:j5):Calls pP 76 #[.agg (xV x).toArray,.agg (xV y).toArray] W fun e w'=>e= .returned (.int .i64 (Ia x y))/\∃q os',w'=grow (W.drewN q) os':=by
 show Calls pP 76 #[.agg #[.int .i64 x.id,.int .i64 x.tier,.int .i64 x.par,.int .i64 x.fr,.int .i64 x.tg,.int .i64 x.rank,.string x.txt],.agg #[.int .i64 y.id,.int .i64 y.tier,.int .i64 y.par,.int .i64 y.fr,.int .i64 y.tg,.int .i64 y.rank,.string y.txt]] W _;have Ab:=fun W'=>Ib x.id y.id W';unfold Ia;generalize (if x.id<y.id then -1 else if y.id<x.id then 1 else 0:Int)=r at Ab ⊢
 go_enter func76,ntmps76
 go_wp2_with (go_at_call 77;refine(Ab _).mono ?_;rintro e w' ⟨rfl,rfl⟩)
 go_ret
 exact⟨rfl,0,_,by rw[alloc_eq_grow,alloc_eq_grow,grow_grow];rfl⟩
def qgh(x y:Nte):decide (Ia x y<0)=decide (x.id<y.id):=by
 unfold Ia;by_cases h1:x.id<y.id
 ·simp[h1]
 ·by_cases h2:y.id<x.id<;>simp[h1,h2]
instance:Inhabited Nte:=⟨fi⟩
def qgu:SWO (ltOf Ia) where
 irrefl x:=by unfold ltOf;rw[qgh];simp
 trans x y z h1 h2:=by unfold ltOf at *;rw[qgh]at *;simp at *;omega
 ntrans x y z h1 h2:=by unfold ltOf at *;rw[qgh]at *;simp at *;omega
def NQ{xs:List Nte}(rH:xs.Nodup)(qH: ∀a∈xs,∀b∈xs,a.id=b.id->a=b){d':Array Nte}(hp:PermIn 0 xs.toArray.size xs.toArray d')(hs:SortedIn (ltOf Ia) 0 xs.toArray.size d'):d'.toList=bF xs:=by
 obtain⟨p1,_,p3⟩:=hp;have vo:d'.size=xs.length:=by rw[p1];simp
 have e1:(d'.extract 0 xs.toArray.size).toList=d'.toList:=by rw[<-p1];simp
 have e2:(xs.toArray.extract 0 xs.toArray.size).toList=xs:=oh;rw[e1,e2]at p3;refine nV ?_ ?_ fun n=>by rw[p3.mem_iff,bF,insB_mem]
 ·have hnd':d'.toList.Nodup:=p3.nodup_iff.2 rH;rw[yH];intro i j hi hj A9;have hi':i<d'.size:=by simpa using hi
  have hj':j<d'.size:=by simpa using hj
  have h1:=hs i j (wM _) A9 ot;unfold ltOf at h1;rw[qgh,getElem!_pos d' i hi',getElem!_pos d' j hj']at h1;simp only[az]at h1;have h2:d'.toList[i]=d'[i]:=oh;have h3:d'.toList[j]=d'[j]:=oh;rw[h2,h3];have h4:d'[i].id≠d'[j].id:=fun e=>by have:=qH _ (p3.mem_iff.1 (yd hi)) _ (p3.mem_iff.1 (yd hj)) (by rw[h2,h3];exact e);exact ak ((List.getElem_inj hnd').1 this) oa
  omega
 ·unfold bF;refine(rF (fun a b c _ _ _ h h'=>?_) (fun a b ha hb h=>?_) rH).imp fun h=>by simpa using h
  ·simp only[aj]at h h' ⊢;omega
  ·simp only[aj];have:a.id≠b.id:=fun e=>h (qH a ha b hb e);omega
def Jw(ys:List Nte):flatK xV 7 ys.toArray=(Array.range (ys.length*7)).map fun t=>(xV ys[t / 7]!)[t % 7]! :=by simp[flatK]
def qg2: ∀args w,(callFunc 76 args).run pP w= .ok (.enter 76 args) w:=enters_of func76 om rfl
def Ez(x:Nte): ∀v∈xV x,v.oneCell'=true:=fun v hv=>by simp only[xV,wJ,w9,ax]at hv;rcases hv with rfl|rfl|rfl|rfl|rfl|rfl|rfl<;>rfl
def NR(xs:List Nte)(j q:Nat)(h0:xs≠ [])(hl:xs.length<=1000000)(rH:xs.Nodup)(qH: ∀a∈xs,∀b∈xs,a.id=b.id->a=b):
  ECalls pP 75 [.one (.ba q 7 0 xs.length (xs.length+j)),.one (.c (.fn 76 []))] (ml [(q,cr (xs.map Nte.enc)++qa j 7)])
   (fun r H'=>r= .tup []/\AllM H' [(q,cr ((bF xs).map Nte.enc)++qa j 7)]):=by
 have h:=Ua (P:=pP) (f:=75) (g:=76) 7 xV oo (fun _=>rfl) Ez om (fun xs ys=>ys=bF xs) q (xs.length+j) (ml [(q,cr (xs.map Nte.enc)++qa j 7)]) xs (qa j 7)
  (by rw[show (xs.map fun x=>(xV x).map Dl.C.lit)=xs.map Nte.enc from rfl];simp +decide only[go_sem]) (zm j 7) h0 fun Ij cap w hH hblk=>by have vo:xs.toArray.size=xs.length:=oh;have Ab:=AnyQ.slices_SortFunc Tryz.sortF 7 Tryz.isAgg122 Tryz.sizeOf122 xV (fun _=>rfl) Ez Ia qgu 76 #[] Ij 0 cap xs.toArray w qg2 (fun _ _ _ _ x y=>Fq x y _) (show Holds id w Ij 0 (flatK xV 7 xs.toArray) by rw[Jw];exact hH) hblk (by rw[vo];omega);rw[vo]at Ab;refine Ab.mono ?_;rintro e w' ⟨he,d',n,os,hp,hs,hw⟩;rw[<-vo]at hp hs;have e1:=NQ rH qH hp hs;refine⟨he,bF xs,n,os,by unfold bF;exact uA _ _,rfl,?_⟩;rw[hw,<-e1,<-Jw];rfl
 unfold ECalls at h ⊢;refine⟨h.1,fun w E F vs h1 h2 h3=>(h.2 w E F vs h1 h2 h3).mono ?_⟩;rintro e w' ⟨v,E',r,H',e1,⟨rfl,ys,_,rfl,rfl⟩,e2,e3⟩;exact⟨v,E',_,_,e1,⟨rfl,by simp[bX,ee,show∀n,(xV n).map Dl.C.lit=Nte.enc n from fun _=>rfl]⟩,e2,e3⟩
section
attribute [local go_sem] vp Nte.row Nte.enc Dcm.rowB B2 ZO strs
def mP:DLe (.agg [.c (.lit (.int .i64 0)),.c (.lit (.string ⟨#[]⟩)),.c (.lit (.int .i64 0)),.c (.lit (.int .i64 0)),.ex 1 [],.ex 4 [],.ex 7 []]) (.agg noDcm.row):=eV [.c (.lit (.int .i64 0)),.c (.lit (.string ⟨#[]⟩)),.c (.lit (.int .i64 0)),.c (.lit (.int .i64 0)),.ex 1 [],.ex 4 [],.ex 7 []]
def lO{Z:Dcm×Int}{E:Int}(h:Z=(noDcm,E)):DLe (.agg [.c (.lit (.int .i64 0)),.c (.lit (.string ⟨#[]⟩)),.c (.lit (.int .i64 0)),.c (.lit (.int .i64 0)),.ex 1 [],.ex 4 [],.ex 7 []]) (.agg [.c (li Z.1.rc.id),.c (ls Z.1.rc.name),.c (li Z.1.rc.len),.c (li Z.1.rc.day),.c (.sl 1 (ints Z.1.rc.sp)),.c (.sl 4 (Z.1.tiers.map Tir.enc)),.c (.sl 7 (Z.1.notes.map Nte.enc))])/\DLe (dv (li E)) (dv (li Z.2)):=by subst h;exact⟨mP,DLe.rfl_ _⟩
theorem cz{Z:Dcm×Int}{D:Dcm}{p:Plc}{w e E:Int}{lc:Bool}{fs gs:List ByteArray}(hZ:Z=if bI D nx lc fs e=0 then(uX D p w nx fs gs,0)else(noDcm,bI D nx lc fs e))(h:bI D nx lc fs e=E)(h0:E≠0):Z=(noDcm,E):=og
def qc4(d:Dcm)(w:Int)(n:Nte):((Af d w fun k=>S.usort (aQ d k)).any fun x=>n.id==x)=zb d (qh d) w n:=by
 unfold Af zb;rw[List.any_flatMap];congr 1;funext k;rw[List.any_cons];congr 1;rw[y8,yK,yK];constructor
 ·rintro⟨x,hx,e⟩;exact⟨x,(Qj _).2 x |>.1 hx,e⟩
 ·rintro⟨x,hx,e⟩;exact⟨x,(Qj _).2 x |>.2 hx,e⟩
def AS{g:Lg}: ∀(a:List Prt) (r:List ByteArray×List ByteArray),(ck g a r).2.2=0->(ck g a r).1.length=r.1.length+a.length
 | [],r,_=>rfl
 | p::a,r,h=>by
  simp only[ck]at h ⊢;split
  ·grind
  ·rename_i h0;rw[j7 h0]at h;rw[AS a _ h];simp;omega
def Pg{g:Lg}(h:(QZ g a).2.2=0):0<(QZ g a).1.length:=by
 unfold QZ at h ⊢;split
 ·grind
 ·rename_i h0;rw[j7 h0]at h;rw[AS a _ h];have h0:Qy g a=0:=oa;unfold Qy at h0;split at h0
  ·omega
  ·omega
def Ry{ns:List Nte}{p:Plc}{w nx:Int}{fs gs:List ByteArray}(MH:ns.Pairwise (fun a b=>a.id<b.id))(hf:((wR (2*fs.length)).any fun i:Nat=>(qI ns (nx+(i:Int))).2)=false):
  (ns++aK p w nx fs gs).Nodup/\∀a∈ns++aK p w nx fs gs,∀b∈ns++aK p w nx fs gs,a.id=b.id->a=b:=by
 have hid: ∀n∈ns,n.id<nx\/nx+2*fs.length<=n.id:=fun n hn=>by
  rcases Int.lt_or_le n.id nx with h|h
  ·omega
  ·right;refine Int.not_lt.1 fun h'=>?_;have:=yY.1 hf (n.id - nx).toNat (yU.2 oa);have e:nx+((n.id - nx).toNat:Int)=n.id:=oa;rw[e,zH MH hn]at this;exact this rfl
 have VJ:(aK p w nx fs gs).Pairwise (fun a b=>a.id<b.id):=by unfold aK;rw[List.pairwise_flatMap];refine⟨fun k hk=>by simp[nM,nG];omega,?_⟩;refine List.pairwise_lt_range.imp fun {i j} A9=>?_;intro a ha b hb;simp only[wJ,w9,ax]at ha hb;rcases ha with rfl|rfl<;>rcases hb with rfl|rfl<;>simp only[nM,nG]<;>omega
 have hrng: ∀n∈aK p w nx fs gs,nx<=n.id/\n.id<nx+2*fs.length:=fun n hn=>by
  rcases mem_nAll.1 hn with h|h
  ·obtain⟨k,hk,rfl⟩:=mem_nM.1 h;simp only[nM];omega
  ·obtain⟨k,hk,rfl⟩:=mem_nG.1 h;simp only[nG];omega
 refine⟨List.nodup_append.2 ⟨dE MH,dE VJ,fun a ha b hb e=>?_⟩,fun a ha b hb e=>?_⟩
 ·grind
 ·rcases wF.1 ha with ha|ha<;>rcases wF.1 hb with hb|hb
  ·exact zL MH ha hb e
  ·grind
  ·grind
  ·exact zL VJ ha hb e
def Ru(f:Nat->List Nte)(h: ∀i,(f i).length=2): ∀k,((wR k).flatMap f).length=2*k
 | 0=>rfl
 | k+1=>by rw[jn,jm,wz,Ru f h k,jA,ja,yG,h];omega
def Jc{g:Lg}: ∀(a:List Prt) (r:List ByteArray×List ByteArray),r.1.length=r.2.length->(ck g a r).1.length=(ck g a r).2.1.length
 | [],r,h=>h
 | p::a,r,h=>by
  simp only[ck];split
  ·rfl
  ·exact Jc a _ (by simp[h])
def Vd(g:Lg)(a:List Prt):(QZ g a).1.length=(QZ g a).2.1.length:=by
 unfold QZ;split
 ·rfl
 ·exact Jc a _ rfl
section
variable {cov:List Nte->Nte->Prop} {tx:ByteArray->Prop} {d:Dcm} (h:GoodD cov tx d)
include h
theorem Sj(w:Int)(hw:vK d (qh d) w=true):ECalls pP 35 [.agg d.row,dv (li w)] (ml []) (fun r H'=>∃j,r= .tup [.agg (d.rowB 0 (d.cut (zb d (qh d) w)).notes.length j),dv (li 0)]/\AllM H' (B2 0 (d.cut (zb d (qh d) w)).notes j)):=by
 have:=Clr.clear_E d w (fun k=>S.usort (aQ d k)) (by have:=h.tiers;omega) (by have:=h.notes;omega) (by have:=h.kid14 w (qh d).m;omega) (fun k hk=>by
  obtain⟨n,hn,rfl,_⟩:=dL hk;refine⟨IF h hn,?_⟩;have h1:=S.usort_len (aQ d n.id);have h2:=CO h.nts h.trs d.tiers.length hn;have h3:=h.notes;unfold aQ at*
  omega) h.ready hw
 simp only[qc4 d]at this;exact this
end
abbrev qeQ:Dl.PL:=fun|32=> Dl.ll 0 23 [(23,.step),(24,.light),(25,.step)]|_=>[]
def qcB{g:Lg}(H:SzG g)(Hs:SpG g){cov:List Nte->Nte->Prop}{tx:ByteArray->Prop}{d:Dcm}(h:GoodD cov tx d)(l:List Dcs)(rc w nx:Int)(a:List Prt)(hn:a.length<=1000000):
  DCalls pP 37 [.agg d.row,.agg g.row,dv (li w),.agg [.c (Zf a)],dv (li nx)] (.tup [.agg (dW (fc g l rc) d (qh d) w a nx).1.row,dv (li (dW (fc g l rc) d (qh d) w a nx).2)]):=by
 have qi:=qo;have hF:=cZ d (by have:=h.tiers;omega);obtain⟨Z,hZ⟩: ∃Z,Z=dW (fc g l rc) d (qh d) w a nx:=⟨_,rfl⟩;rw[<-hZ];unfold dW at hZ;cases hw:vK d (qh d) w
 ·rw[hw,j7 oh]at hZ;have hC:=FH h w;unfold cD at hC;rw[hw,j7 oh]at hC;subst hZ;rw[<-qD];clear hF h;simp only[Dcm.row]at hC ⊢;refine dX (N:=145) (rs:=[.cell 10 42,.tmp 11]) qeQ func37 ?_;repeat' first|refine gQ ?_|exact gU|refine gS ?_|exact gT|(first|apply xc|apply gf|apply gt)<;>intro hc
  exact mP
 rw[hw,ae rfl]at hZ;have hC:=Sj h w hw;have hN:(d.cut (zb d (qh d) w)).notes.length<=300:=by have:=h.notes;have:=yN (fun n=> !zb d (qh d) w n) d.notes;unfold Dcm.cut;simp only;omega
 have hG:=fun id j=>qcs d (d.cut (zb d (qh d) w)).notes id j (29+NB) (y7 _ _) oa;have hT:(qu (d.cut (zb d (qh d) w)).notes w).size<=1048576:=by
  unfold qu qI;split
  ·rename_i n hn;exact h.txt n (yR.1 (jD hn)).1
  ·exact wM _
 have hLc:=qbr H (qu (d.cut (zb d (qh d) w)).notes w) a hT hn;have hLn:=Ja Hs a hn;have A4:=EI g a;have vh:=Vd g a;have PX:=Pg (g:=g) (a:=a);have MH:(d.cut (zb d (qh d) w)).notes.Pairwise (fun a b=>a.id<b.id):=H6 h.nts.up;change Z=if bI (d.cut (zb d (qh d) w)) nx (EJ g (qu (d.cut (zb d (qh d) w)).notes w) a) (QZ g a).1 (QZ g a).2.2=0 then(uX (d.cut (zb d (qh d) w)) (qh d) w nx (QZ g a).1 (QZ g a).2.1,0)else(noDcm,bI (d.cut (zb d (qh d) w)) nx (EJ g (qu (d.cut (zb d (qh d) w)).notes w) a) (QZ g a).1 (QZ g a).2.2)at hZ
 generalize hDD:d.cut (zb d (qh d) w)=D at*
 have hrc:D.rc=d.rc:=by rw[<-hDD];rfl
 have htr:D.tiers=d.tiers:=by rw[<-hDD];rfl
 generalize hxt:qu D.notes w=xt at*
 have hxt':(qI D.notes w).1.txt=xt:=hxt;clear hxt hDD;have Yl:=fun j=>hG w j;generalize qI D.notes w=nb at Yl hxt';obtain⟨n1,b1⟩:=nb;simp only at hxt';subst hxt';generalize EJ g n1.txt a=lc at*
 generalize QZ g a=L at*
 obtain⟨fs,gs,e⟩:=L;simp only at A4 hLn hZ vh PX;replace PX:Kp _:=⟨PX⟩;replace hZ:Kp _:=⟨hZ⟩;replace hG:Kp _:=⟨hG⟩;replace vh:Kp _:=⟨vh⟩;replace Yl:Kp _:=⟨Yl⟩;replace hC:Kp _:=⟨hC⟩;rw[<-qD]at*
 rw[show (qh d).row= [.c (li (qh d).w),.c (li (qh d).m),.c (li (qh d).g)] from rfl]at hF;simp only[Dcm.row,Zf]at hF hLc hLn ⊢;refine dX (N:=145) (rs:=[.cell 10 42,.tmp 11]) qeQ func37 ?_;repeat' first|refine gQ ?_|exact gU|refine gS ?_|exact gT|(first|apply xc|apply gf|apply gt)<;>intro hc
 have hC:=hC.1;simp only[Dcm.row,Dcm.rowB]at hC;refine Vm [] ?_ hC (h1:=oh) (h2:=by intro x hx;injection hx with hx;subst hx;simp);rintro q H' ⟨j,rfl,hA⟩;simp only[B2,bX,ee,and_true]at hA;clear hC;repeat' first|refine gQ ?_|exact gU|refine gS ?_|exact gT|(first|apply xc|apply gf|apply gt)<;>intro hc
 have Yl:=Yl.1 j;simp only[Dcm.rowB,B2]at Yl;refine Vm [29] ?_ Yl;rintro q H2 ⟨rfl,nf⟩;simp only[bX,ee,and_true]at nf;clear Yl;repeat' first|refine gQ ?_|exact gU|refine gS ?_|exact gT|(first|apply xc|apply gf|apply gt)<;>intro hc
 ·exact lO (cz hZ.1 (by unfold bI;rw[ae oA]) oo)
 ·exact lO (cz hZ.1 (by unfold bI;rw[j7 oA,ae oA]) oA)
 have hlc:lc=true:=oA;have he:e=0:=oA;subst hlc;subst he;have P8:fs.length<=1000000:=oa;clear hLc hLn hT;refine lp fs [2,4,5,10,12,16,17,60,61] [5,10,12,29] (fun k=>[(62,dv (li k))]) (fun _=>[]) (fun k=>∀s∈fs.take k,decide (200<s.size)=false) oh ?_ ?_ (uO:=by(simp +decide only[go_sem, *];rfl))
 ·intro k s hs bw hm qs qf AY hv;have Q5:decide (200<s.size)=false->∀x∈fs.take (k+1),decide (200<x.size)=false:=og;have Fb:decide (200<s.size)=true->Z=(noDcm,5):=fun h=>cz hZ.1 (by unfold bI;rw[j7 oh,j7 oh,ae (yK.2 ⟨s,hm,h⟩)]) oo;clear qs hm hv hA nf;replace Q5:Kp _:=⟨Q5⟩;replace Fb:Kp _:=⟨Fb⟩;repeat' first|refine gQ ?_|exact gU|refine gS ?_|exact gT|(first|apply xc|apply gf|apply gt)<;>intro hc
  ·exact lO (Fb.1 (by simp only[aj]at hc ⊢;omega))
  ·exact⟨Q5.1 (by simp only[az]at hc ⊢;omega),qJ⟩
 intro qf xZ;rw[wc]at xZ;have VX:(fs.any fun s=>decide (200<s.size))=false:=og;clear xZ hA nf;have EV: ∀E,(if nx<1\/1099511627768<nx then(2:Int)else if((wR (2*fs.length)).any fun i:Nat=>(qI D.notes (nx+(i:Int))).2)=true then 8 else if 300<D.notes.length+2*fs.length then 11 else 0)=E->bI D nx true fs 0=E:=fun E h=>by unfold bI;rw[j7 oh,j7 oh,j7 (by rw[VX];simp),h]
 clear VX;by_cases hx1:nx<1
 ·have z:=cz hZ.1 (EV 2 (by rw[ae (.inl hx1)])) oo;clear EV hZ hG;replace z:Kp _:=⟨z⟩;repeat' first|refine gQ ?_|exact gU|refine gS ?_|exact gT|(first|apply xc|apply gf|apply gt)<;>intro hc
  exact lO z.1
 by_cases Jm:1099511627768<nx
 ·have z:=cz hZ.1 (EV 2 (by rw[ae (.inr Jm)])) oo;clear EV hZ hG;replace z:Kp _:=⟨z⟩;repeat' first|refine gQ ?_|exact gU|refine gS ?_|exact gT|(first|apply xc|apply gf|apply gt)<;>intro hc
  exact lO z.1
 have uJ: ∀E,(if((wR (2*fs.length)).any fun i:Nat=>(qI D.notes (nx+(i:Int))).2)=true then(8:Int)else if 300<D.notes.length+2*fs.length then 11 else 0)=E->bI D nx true fs 0=E:=og;clear EV;replace uJ:Kp _:=⟨uJ⟩;have rG:aD .i64 (2*(fs.length:Int))=((2*fs.length:Nat):Int):=by rw[wrap_i64 oa oa];simp
 repeat' first|refine gQ ?_|exact gU|refine gS ?_|exact gT|(first|apply xc|apply gf|apply gt)<;>intro hc
 refine Pd (2*fs.length) [2,4,5,10,12,16,17,80] [5,10,12,29] (fun k=>[(81,dv (li k))]) (fun _=>[]) (fun k=>((wR k).any fun i:Nat=>(qI D.notes (nx+(i:Int))).2)=false) oh ?_ ?_
 ·intro k bw qf AY hv;have VE:aD .i64 (nx+(k:Int))=nx+k:=wrap_i64 oa oa;have qd8:=hG.1 (nx+k) j;simp only[Dcm.rowB,B2]at qd8;have Q5:(qI D.notes (nx+(k:Int))).2=false->((wR (k+1)).any fun i:Nat=>(qI D.notes (nx+(i:Int))).2)=false:=fun h=>by rw[jn,List.any_append,hv];simp[h]
  have Fb:(qI D.notes (nx+(k:Int))).2=true->Z=(noDcm,8):=fun h=>cz hZ.1 (uJ.1 8 (by rw[ae (yK.2 ⟨k,yU.2 bw,h⟩)])) oo;clear hv;generalize qI D.notes (nx+(k:Int))=nb at*
  obtain⟨n2,b2⟩:=nb;simp only at Q5 Fb qd8;replace Q5:Kp _:=⟨Q5⟩;replace Fb:Kp _:=⟨Fb⟩;repeat' first|refine gQ ?_|exact gU|refine gS ?_|exact gT|(first|apply xc|apply gf|apply gt)<;>intro hc
  refine Vm [29] ?_ qd8;rintro q H3 ⟨rfl,hA3⟩;simp only[bX,ee,and_true]at hA3;clear qd8;cases b2
  ·repeat' first|refine gQ ?_|exact gU|refine gS ?_|exact gT|(first|apply xc|apply gf|apply gt)<;>intro hc
   exact⟨by have:=Q5.1 rfl;rw[jn]at this;exact this,qJ⟩
  ·repeat' first|refine gQ ?_|exact gU|refine gS ?_|exact gT|(first|apply xc|apply gf|apply gt)<;>intro hc
   exact lO (Fb.1 rfl)
 intro qf HC;have hw4:aD .i64 ((D.notes.length:Int)+((2*fs.length:Nat):Int))=((D.notes.length+2*fs.length:Nat):Int):=by rw[wrap_i64 oa oa];simp
 by_cases Ra:300<D.notes.length+2*fs.length
 ·have z:=cz hZ.1 (uJ.1 11 (by rw[j7 (by rw[HC];simp),ae Ra])) oo;have hbig':(300:Int)<((D.notes.length+2*fs.length:Nat):Int):=oa;clear uJ hZ hG HC;replace z:Kp _:=⟨z⟩;repeat' first|refine gQ ?_|exact gU|refine gS ?_|exact gT|(first|apply xc|apply gf|apply gt)<;>intro hc
  exact lO z.1
 have hbig': ¬(300:Int)<((D.notes.length+2*fs.length:Nat):Int):=oa;have z:Z=(uX D (qh d) w nx fs gs,0):=by rw[hZ.1,uJ.1 0 (by rw[j7 (by rw[HC];simp),j7 Ra]),ae rfl]
 have P5:=Ry (p:=qh d) (w:=w) (gs:=gs) MH HC;clear uJ hZ hG HC;replace z:Kp _:=⟨z⟩;replace P5:Kp _:=⟨P5⟩;repeat' first|refine gQ ?_|exact gU|refine gS ?_|exact gT|(first|apply xc|apply gf|apply gt)<;>intro hc
 refine S7 fs [2,4,10,12,16,17,23,107] [10,23] (fun k (_:Nat)=>[(108,dv (li k))]) (fun k j=>[(29,cr ((D.notes++(wR k).flatMap fun i=>[nM (qh d) w nx fs i,nG (qh d) nx gs i]).map Nte.enc)++qa j 7),(12,[[.c (li d.rc.id),.c (ls d.rc.name),.c (li d.rc.len),.c (li d.rc.day),.c (.sl 1 (ints d.rc.sp)),.c (.sl 4 (d.tiers.map Tir.enc)),.ba 29 7 0 (D.notes.length+2*k) (D.notes.length+2*k+j)]])]) (fun k _=>True) j trivial ?_ ?_ (hb0:=by simp +decide only[go_sem,List.range_zero,ja,yG,Nat.mul_zero,jB, *])
 ·intro k s j2 hs bw hm qs qf AY _;obtain⟨gk,hgk⟩: ∃gk,gs[k]? =some gk:=⟨_,wa (by have:=vh.1;omega)⟩;have hwa:aD .i64 (2*(k:Int))=2*(k:Int):=wrap_i64 oa oa;have hwb:aD .i64 (nx+2*(k:Int))=nx+2*(k:Int):=wrap_i64 oa oa;have hwc:aD .i64 (nx+2*(k:Int)+1)=nx+2*(k:Int)+1:=wrap_i64 oa oa;have vO:(wR (k+1)).flatMap (fun i=>[nM (qh d) w nx fs i,nG (qh d) nx gs i])=(wR k).flatMap (fun i=>[nM (qh d) w nx fs i,nG (qh d) nx gs i])++[nM (qh d) w nx fs k,nG (qh d) nx gs k]:=by rw[jn,jm,jA,ja,yG]
  have hM:nM (qh d) w nx fs k=⟨nx+2*k,(qh d).m,w,0,0,k,s⟩:=by unfold nM;rw[hs];rfl
  have hGg:nG (qh d) nx gs k=⟨nx+2*k+1,(qh d).g,nx+2*k,0,0,0,gk⟩:=by unfold nG;rw[hgk];rfl
  have qbY:((wR k).flatMap fun i=>[nM (qh d) w nx fs i,nG (qh d) nx gs i]).length=2*k:=Ru _ (fun _=>rfl) k;rw[vO,hM,hGg];generalize (wR k).flatMap (fun i=>[nM (qh d) w nx fs i,nG (qh d) nx gs i])=q at*
  have hszD: ∀r∈D.notes.map Nte.enc++q.map Nte.enc,r.length=7:=fun r hr=>by rcases wF.1 hr with hr|hr<;>(obtain⟨x,_,rfl⟩:=wN.1 hr;rfl)
  have vG:(cr (D.notes.map Nte.enc++q.map Nte.enc)).length=D.notes.length+2*k:=by rw[qK,wz,wn,wn,qbY]
  clear vO hM hGg hm qs hF z;repeat' first|refine gQ ?_|exact gU|refine gS ?_|exact gT|(first|apply xc|apply gf|apply gt)<;>intro hc
  refine StepC.mk (Step.appendList (n:=29) (sz:=7) (by_:=64) (rows:=cr (D.notes.map Nte.enc++q.map Nte.enc)) (j:=j2) (ys:=cr [Nte.enc ⟨nx+2*k,(qh d).m,w,0,0,k,s⟩,Nte.enc ⟨nx+2*k+1,(qh d).g,nx+2*k,0,0,0,gk⟩]) rfl rfl oe (by simp +decide only[go_sem,vG]) oe (nu hszD) (srcEx oe) (by rw[vG,qK];simp;omega) ?_);intro j3;have hlen2:(cr [Nte.enc ⟨nx+2*k,(qh d).m,w,0,0,k,s⟩,Nte.enc ⟨nx+2*k+1,(qh d).g,nx+2*k,0,0,0,gk⟩]).length=2:=rfl;rw[vG,hlen2,show D.notes.length+2*k+2=D.notes.length+2*(k+1) by omega];repeat' first|refine gQ ?_|exact gU|refine gS ?_|exact gT|(first|apply xc|apply gf|apply gt)<;>intro hc
  exact⟨j3,DS.Sub.trans (zB 138 29 oa) (km (by simp +decide only[go_sem,Qv,wS]))⟩
 ·intro j2 qf _;have qdQ:(D.notes++aK (qh d) w nx fs gs).length=D.notes.length+2*fs.length:=by rw[wz,aK,Ru _ (fun _=>rfl)]
  have hS:=NR (D.notes++aK (qh d) w nx fs gs) j2 (29+NB) (fun e=>by have:=PX.1 rfl;rw[e]at qdQ;simp only[wT]at qdQ;omega) oa P5.1.1 P5.1.2;rw[qdQ]at hS;have hz:Z=(D.withN (bF (D.notes++aK (qh d) w nx fs gs)),0):=z.1;have dB:(bF (D.notes++aK (qh d) w nx fs gs)).length=D.notes.length+2*fs.length:=by unfold bF;rw[uA,qdQ]
  subst hz;clear z P5 PX;rw[show (wR fs.length).flatMap (fun i=>[nM (qh d) w nx fs i,nG (qh d) nx gs i])=aK (qh d) w nx fs gs from rfl];generalize bF (D.notes++aK (qh d) w nx fs gs)=ys at*
  generalize D.notes++aK (qh d) w nx fs gs=xs at*
  simp only[Dcm.withN,hrc,htr];repeat' first|refine gQ ?_|exact gU|refine gS ?_|exact gT|(first|apply xc|apply gf|apply gt)<;>intro hc
  refine Lm [29] ?_ hS;rintro qq H4 ⟨rfl,hA4⟩;simp only[bX,ee,and_true]at hA4;have hym:(ys.map Nte.enc).length=D.notes.length+2*fs.length:=og;have sJ:D.notes.length+2*fs.length<=(ys.map Nte.enc).length:=oa;have gg:List.take (D.notes.length+2*fs.length) (ys.map Nte.enc)=ys.map Nte.enc:=og;refine⟨kn 145 [(10,.one (.bx 10 7 0 0)),(12,.one (.bx 12 7 0 0))] (ml [(10,[[.c (.lit (.int .i64 0)),.c (.lit (.string ⟨#[]⟩)),.c (.lit (.int .i64 0)),.c (.lit (.int .i64 0)),.ex 1 [],.ex 4 [],.ex 7 []]]),(12,[[.c (li d.rc.id),.c (ls d.rc.name),.c (li d.rc.len),.c (li d.rc.day),.c (.sl 1 (ints d.rc.sp)),.c (.sl 4 (d.tiers.map Tir.enc)),.c (.sl 7 (ys.map Nte.enc))]])]),
   DS.Sub.trans (ca 29 7 (ys.map Nte.enc) (qa j2 7) oo oq (fun r hr=>by obtain⟨x,_,rfl⟩:=wN.1 hr;rfl)) (qw rfl oq oq),rfl,?_⟩
  repeat' first|refine gQ ?_|exact gU|refine gS ?_|exact gT|(first|apply xc|apply gf|apply gt)<;>intro hc
end
section
attribute [local go_sem] vp Nte.row Nte.enc Sta.ag Sta.enc ZO Zf
def Hf:SN pP 30 (fun e=>.iface 96 (.agg #[.int .i64 e])):=⟨om,He⟩
def QA(D:List T)(E:Int)(e:Exit)(s:DS):Prop:=
 (s.sl 8= .one (.bx (8+NB) 7 0 0)/\s.sl 9= .one (.bx (9+NB) 1 0 0))/\((e= .ret/\E=0/\s.bx (8+NB)=some [D]/\s.bx (9+NB)=some [[.c (li 0)]])\/
  (e= .panic [{ v:=.iface 96 (.agg #[.int .i64 E]),recovered:=false }]/\E≠0/\s.bx (8+NB)=some [bY]/\s.bx (9+NB)=some [[.c (li 0)]]))
def qdw(D:List T)(E:Int)(s:DS):QA D E .ret s=((s.sl 8= .one (.bx (8+NB) 7 0 0)/\s.sl 9= .one (.bx (9+NB) 1 0 0))/\E=0/\s.bx (8+NB)=some [D]/\s.bx (9+NB)=some [[.c (li 0)]]):=by simp[QA]
def Iv(D:List T)(E e:Int)(s:DS)(h:e=E)(h0:e≠0)(h8:s.sl 8= .one (.bx (8+NB) 7 0 0))(h9:s.sl 9= .one (.bx (9+NB) 1 0 0))(b8:s.bx (8+NB)=some [bY])(b9:s.bx (9+NB)=some [[.c (li 0)]]):QA D E (.panic [{ v:=.iface 96 (.agg #[.int .i64 e]),recovered:=false }]) s:=by subst h;exact⟨⟨h8,h9⟩,.inr ⟨rfl,h0,b8,b9⟩⟩
noncomputable def IP:Code:=match Tryz.f9.body with|some (.seq _ (.seq _ c))=>c|_=>.skip
abbrev qgg(d g:List T)(l nx:D):DS:=kn 86 [(2,l),(3,nx),(4,.one (.bx 4 7 0 0)),(5,.one (.bx 5 9 0 0)),(8,.one (.bx (8+NB) 7 0 0)),(9,.one (.bx (9+NB) 1 0 0))] (ml [(4,[d]),(5,[g]),(8+NB,[bY]),(9+NB,[[.c (li 0)]])])
def YD(d:Dcm)(g:Lg)(l:List Dcs)(nx:Int)(R:List T)(E:Int)(hR: ∃a0 a1 a2 a3 a4 a5 a6,R= [.c a0,.c a1,.c a2,.c a3,.c a4,.c a5,.c a6])
  (aE:DW pP IP (qgg d.row g.row (dv (.sl 4 (l.map Dcs.enc))) (dv (li nx))) (QA R E)):
  DCalls pP 9 [.agg d.row,.agg g.row,dv (.sl 4 (l.map Dcs.enc)),dv (li nx)] (.tup [.agg (if E=0 then R else bY),dv (li E)]):=by
 refine H5 (N:=86) (cl:=18) (x:=8) (y:=9) (rest:=IP) (S1:=kn 86 [(2,dv (.sl 4 (l.map Dcs.enc))),(3,dv (li nx)),(4,.one (.bx 4 7 0 0)),(5,.one (.bx 5 9 0 0)),(8,.one (.bx 8 7 0 0)),(9,.one (.bx 9 1 0 0))] (ml [(4,[d.row]),(5,[g.row]),(8,[bY]),(9,[[.c (li 0)]])]))
  (S2:=kn 86 [(2,dv (.sl 4 (l.map Dcs.enc))),(3,dv (li nx)),(4,.one (.bx 4 7 0 0)),(5,.one (.bx 5 9 0 0)),(8,.one (.bx 8 7 0 0)),(9,.one (.bx 9 1 0 0)),(18,.one (.fv 28 [.bx 8 7 0 0,.bx 9 1 0 0]))] (ml [(4,[d.row]),(5,[g.row]),(8,[bY]),(9,[[.c (li 0)]])])) (Q:=QA R E)
  [4,5,8,9] om func9 rfl rfl oh om ?_ ?_ rfl rfl rfl rfl (by simp[mid]) oh ?_ ?_ ?_
 ·simp only[<-qD,Dcm.row,bY];simp +decide only[go_sem];exact Zb
 ·simp +decide only[go_sem,bY];exact Zb
 ·clear hR;simp only[<-qD,Dcm.row,qgg,bY]at aE ⊢;refine qn (zB (4+NB) 4 oo) (qn (zB (5+NB) 5 oo) (qn ?_ aE));refine qw rfl ?_ ?_
  ·simp +decide only[go_sem]
  ·simp +decide only[go_sem,vf]
 ·intro R1;obtain⟨a0,a1,a2,a3,a4,a5,a6,rfl⟩:=hR;split<;>simp[D.tr,D.trAll,T.tr,T.trAll,bY]
 ·obtain⟨a0,a1,a2,a3,a4,a5,a6,rfl⟩:=hR;rintro e s' ⟨⟨h8,h9⟩,⟨rfl,rfl,b8,b9⟩|⟨rfl,h0,b8,b9⟩⟩
  ·refine .inl ⟨.inl rfl,?_⟩;have:Tryz.f9.results.toList= [.cell 8 42,.cell 9 49]:=rfl;rw[this];simp +decide only[go_sem,Zs,fO,h8,h9,b8,b9]
  ·refine .inr ⟨E,rfl,_,_,b8,rfl,b9,rfl,fun H' m1 m2=>?_⟩;have:Tryz.f9.results.toList= [.cell 8 42,.cell 9 49]:=rfl;rw[this,j7 h0];simp +decide only[go_sem,Zs,fO,h8,h9,b8,b9,m1,m2,qF,bY]
def qde(d:Dcm)(g:Lg)(l:List Dcs)(nx:Int)(hl:d.tiers.length<=1048576)(hr:QM (qh d)=false):
  DCalls pP 9 [.agg d.row,.agg g.row,dv (.sl 4 (l.map Dcs.enc)),dv (li nx)] (.tup [.agg noDcm.row,dv (li 14)]):=by
 refine(YD d g l nx noDcm.row 14 ⟨_,_,_,_,_,_,_,rfl⟩ ?_).le ?_
 ·have hR:=dG d hl;rw[hr]at hR;delta IP;simp only[Tryz.f9];refine yw (N:=86) qg [3,12,16] ?_;simp only[<-qD,Dcm.row,qgg,bY]at hR ⊢;clear hr;simp +decide only[go_sem, *];refine kq ?_;simp +decide only[go_sem, *];refine CB (pre:=[]) 86 Hf ?_;simp +decide only[go_sem];refine⟨14,rfl,fun h=>ak h oo,fun h=>?_⟩;exact Iv _ _ _ _ rfl h oe oe oe oe
 ·rw[j7 oo];exact DLeT.le (l:=[.agg bY,dv (li 14)]) (r:=.tup [.agg noDcm.row,dv (li 14)]) ⟨mP,DLe.rfl_ _,trivial⟩
def tq{s:ByteArray}(h:Qh s=0):s.size<=1048576:=by
 unfold Qh at h;split at h
 ·cases h
 ·omega
structure AllI(cov:List Nte->Nte->Prop)(S:Svc (List Prt))(d0:Dcm)(ws:List Int)(RR:Dcm×Int)(k:Nat)(y:Dcm×Int):Prop where
 good:GoodD cov (fun s=>Qh s=0) y.1
 trs:y.1.tiers=d0.tiers
 rc:y.1.rc=d0.rc
 word: ∀w∈ws,vK y.1 (qh d0) w=true
 res:QI S (qh d0) (ws.drop k) y.1 y.2=RR
def AllI.next{cov:List Nte->Nte->Prop}{S:Svc (List Prt)}{d0:Dcm}{ws:List Int}{RR:Dcm×Int}{k:Nat}{d:Dcm}{nx w:Int}(h:AllI cov S d0 ws RR k (d,nx))(Y:LinOk S fun s=>Qh s=0)(hw:ws[k]? =some w):
  ((cJ S (qh d0) d nx w).2.1=0->AllI cov S d0 ws RR (k+1) ((cJ S (qh d0) d nx w).1,(cJ S (qh d0) d nx w).2.2))/\((cJ S (qh d0) d nx w).2.1≠0->RR=(noDcm,(cJ S (qh d0) d nx w).2.1)):=by
 have hr:=h.res;have hk:=(wg.1 hw).1;rw[wP hk,show ws[k]=w from(wg.1 hw).2]at hr;simp only[QI]at hr;have hp:qh d=qh d0:=by unfold qh;rw[h.trs]
 refine⟨fun h0=>?_,fun h0=>?_⟩
 ·rw[j7 (by simpa using h0)]at hr;have T:=h.good.trs;rw[hp]at T;obtain⟨o1,o2,_,o4,o5⟩:=OV h.good.nts T Y (h.word w (ww hw)) h0 h.good.notes h.good.few;have ht:(cJ S (qh d0) d nx w).1.tiers=d.tiers:=o2.trs;have lY:qh (cJ S (qh d0) d nx w).1=qh d0:=(af (fun ts=>(⟨vA ts 2,vA ts 3,vA ts 4⟩:Plc)) ht).trans hp;refine⟨⟨o1,by rw[lY,ht];exact T,o5,o4,by rw[ht];exact h.good.tiers,fun n hn=>tq (o1.note n hn).1⟩,ht.trans h.trs,o2.rc.trans h.rc,fun v hv=>?_,hr⟩;rw[o2.word T.lt.2.1];exact h.word v hv
 ·rw[ae h0]at hr;exact hr.symm
def JS{S:Svc (List Prt)}{p:Plc}: ∀(ws:List Int) (d:Dcm) (nx:Int),(QI S p ws d nx).2≠0->(QI S p ws d nx).1=noDcm
 | [],d,nx,h=>ak rfl h
 | w::ws,d,nx,h=>by
  simp only[QI]at h ⊢;split
  ·rfl
  ·rename_i h0;rw[j7 h0]at h;exact JS ws _ _ h
def Wb{S:Svc (List Prt)}(Y:LinOk S fun s=>Qh s=0){p:Plc}{w:Int}(h:(dW S d p w a nx).2=0):aD .i64 (2*((S.len a:Nat):Int))=2*(S.len a:Nat)/\aD .i64 (nx+2*((S.len a:Nat):Int))=nx+2*(S.len a:Nat):=by
 unfold dW at h;split at h
 ·split at h
  ·rename_i h0;unfold bI at h0;split at h0
   ·omega
   split at h0
   ·omega
   rename_i he;have he:(S.lin a).2.2=0:=oa;have:=(Y.len a he).2.2.2;split at h0
   ·omega
   split at h0
   ·omega
   constructor<;>(apply wrap_i64<;>omega)
  ·rename_i h0;exact ak h h0
 ·cases h
def FT{cov:List Nte->Nte->Prop}{d:Dcm}(h:GoodD cov (fun s=>Qh s=0) d){g:Lg}(H:SrL g)(Hs:SpG g)(HT:LgT g)(l:List Dcs)(nx:Int)(hl:l.length<=1048576)(hp: ∀d∈l,d.pick.length<=1000000):
  DCalls pP 9 [.agg d.row,.agg g.row,dv (.sl 4 (l.map Dcs.enc)),dv (li nx)] (.tup [.agg (QI (fc g l d.rc.id) (qh d) (Za d (qh d).w) d nx).1.row,dv (li (QI (fc g l d.rc.id) (qh d) (Za d (qh d).w) d nx).2)]):=by
 have qi:=qo;have Y:=nY HT l d.rc.id;have hR:=dG d (by have:=h.tiers;omega);have hF:=cZ d (by have:=h.tiers;omega);have hO:=qa4 d h.kids _ (qh d).w (show(qh d).w<((qh d).w.toNat+1:Nat) by omega);have hwl:(Za d (qh d).w).length<=1000000:=h.kids.ofs _ _;have hI:AllI cov (fc g l d.rc.id) d (Za d (qh d).w) (QI (fc g l d.rc.id) (qh d) (Za d (qh d).w) d nx) 0 (d,nx):=⟨h,rfl,rfl,fun w hw=>by obtain⟨n,h1,rfl,h3⟩:=uk hw;rw[isWord_iff,zH h.nts.up h1];exact⟨rfl,h3⟩,rfl⟩
 rw[h.ready]at hR;change DCalls pP 32 _ (dv (.sl 1 (ints (Za d (qh d).w))))at hO;have hPr:(qh d).row= [.c (li (qh d).w),.c (li (qh d).m),.c (li (qh d).g)]:=rfl;rw[hPr]at hF;clear hPr;generalize Yk:QI (fc g l d.rc.id) (qh d) (Za d (qh d).w) d nx=RR at*
 generalize Za d (qh d).w=ws at*
 refine(YD d g l nx RR.1.row RR.2 ⟨_,_,_,_,_,_,_,rfl⟩ ?_).le ?_
 ·delta IP;simp only[Tryz.f9];refine yw (N:=86) qg [3,12,16] ?_;rw[<-qD];simp only[Dcm.row,qgg,bY]at hR hF hO ⊢;simp +decide only[go_sem,hR,hF,hO];refine kq ?_ hR;simp +decide only[go_sem];refine kq ?_ hF;simp +decide only[go_sem];refine kq ?_ hO;simp +decide only[go_sem];have VO:ws.length<=maxLen:=oa;refine u0 (σ:=Dcm×Int) ws (fun k y=>kn 86 [(3,dv (li y.2)),(30,dv (li k)),(2,dv (.sl 4 (l.map Dcs.enc))),(4,.one (.bx 4 7 0 0)),(5,.one (.bx 5 9 0 0)),(8,.one (.bx (8+NB) 7 0 0)),(9,.one (.bx (9+NB) 1 0 0)),(10,.one (.bx 10 3 0 0)),(28,dv (.sl 1 (ints ws))),(29,dv (li ws.length))]
   (ml [(4,[y.1.row]),(5,[(ZO g).map T.c]),(8+NB,[bY]),(9+NB,[[.c (li 0)]]),(10,[[.c (li (qh d).w),.c (li (qh d).m),.c (li (qh d).g)]])])) (AllI cov (fc g l d.rc.id) d ws RR) (d,nx) VO ?_ hI ?_ ?_
  ·simp only[Dcm.row,bY];exact Zb
  ·rintro k w ⟨dk,nk⟩ hx hk hm qs qf hw HI;have Tf:=HI.good;have hpk:qh dk=qh d:=af (fun ts=>(⟨vA ts 2,vA ts 3,vA ts 4⟩:Plc)) HI.trs;have Cp:=DI H l Tf.gls w hl hp;have hK:=oZ dk w (qh d).m Tf.gls.notes (Tf.gls.kids _ _);have hC:=FH Tf w;have Dd:=IH Hs l d.rc.id Tf.gls w (vI g ⟨d.rc.id,w⟩ (qu dk.notes w) l).pick (fI hp);have hFl:=qcB H.sz Hs Tf l d.rc.id w nk (vI g ⟨d.rc.id,w⟩ (qu dk.notes w) l).pick (fI hp);have hrc:dk.rc=d.rc:=HI.rc;rw[hrc]at Cp;rw[hpk]at hC Dd hFl;have Q5:=HI.next Y hx
   have hwr:(dW (fc g l d.rc.id) dk (qh d) w (vI g ⟨d.rc.id,w⟩ (qu dk.notes w) l).pick nk).2=0->aD .i64 (2*(((vI g ⟨d.rc.id,w⟩ (qu dk.notes w) l).pick.length:Nat):Int))=2*((vI g ⟨d.rc.id,w⟩ (qu dk.notes w) l).pick.length:Nat)/\
     aD .i64 (nk+2*(((vI g ⟨d.rc.id,w⟩ (qu dk.notes w) l).pick.length:Nat):Int))=nk+2*((vI g ⟨d.rc.id,w⟩ (qu dk.notes w) l).pick.length:Nat):=fun h0=>Wb Y h0
   have hone:cJ (fc g l d.rc.id) (qh d) dk nk w=if(vI g ⟨d.rc.id,w⟩ (qu dk.notes w) l).kind≠4 then(if 0<(dk.kids w (qh d).m).length then((cD dk (qh d) w).1,(cD dk (qh d) w).2,nk)else(dk,0,nk))
    else if Qx (fc g l d.rc.id) dk (qh d) w (vI g ⟨d.rc.id,w⟩ (qu dk.notes w) l).pick=true then(dk,0,nk)else((dW (fc g l d.rc.id) dk (qh d) w (vI g ⟨d.rc.id,w⟩ (qu dk.notes w) l).pick nk).1,(dW (fc g l d.rc.id) dk (qh d) w (vI g ⟨d.rc.id,w⟩ (qu dk.notes w) l).pick nk).2,nk+2*((vI g ⟨d.rc.id,w⟩ (qu dk.notes w) l).pick.length:Int)):=rfl
   rw[hone]at Q5;have hl19:(dk.kids w (qh d).m).length<=19:=lx Tf.gls w (qh d).m;generalize vI g ⟨d.rc.id,w⟩ (qu dk.notes w) l=Z at*
   generalize Qx (fc g l d.rc.id) dk (qh d) w Z.pick=sh at*
   generalize dW (fc g l d.rc.id) dk (qh d) w Z.pick nk=F at*
   generalize cD dk (qh d) w=C at*
   generalize dk.kids w (qh d).m=K at*
   clear hone hrc Tf HI hm qs hI hR hF hO Yk Y hp;rw[<-qD]at Cp Dd hFl;simp only[Dcm.row,Zf,bY]at Cp Dd hFl hC hK ⊢;replace hwr:Kp _:=⟨hwr⟩;refine yw (N:=86) qg [3,12,16] ?_;by_cases LM:Z.kind=4
   ·have e4:(Z.kind==4)=true:=by simpa using LM
    clear hC hK;rw[j7 (by simpa using LM)]at Q5;cases sh
    ·rw[j7 oh]at Q5;replace Q5:Kp _:=⟨Q5⟩;clear LM;simp +decide only[go_sem, *];repeat'(refine kq ?_;simp +decide only[go_sem, *])
     refine CB (pre:=[_]) 86 Hf ?_;simp +decide only[go_sem, *];refine⟨F.2,rfl,fun h0=>?_,fun h0=>?_⟩
     ·obtain⟨w1,w2⟩:=hwr.1 h0;have hi:=Q5.1.1 h0;simp +decide only[go_sem, *,wn];exact⟨(F.1,nk+2*(Z.pick.length:Int)),hi,Zb⟩
     ·have hr:=Q5.1.2 h0;exact Iv _ _ _ _ (by rw[hr]) h0 oe oe oe oe
    ·rw[ae rfl]at Q5;have hi:=Q5.1 rfl;clear Q5 LM;simp +decide only[go_sem, *];repeat'(refine kq ?_;simp +decide only[go_sem, *])
     exact⟨(dk,nk),hi,Zb⟩
   ·have e4:(Z.kind==4)=false:=by simpa using LM
    clear Dd hFl hwr;rw[ae LM]at Q5;clear LM;cases K with
    | nil=> 
     rw[j7 oh]at Q5;have hi:=Q5.1 rfl;clear Q5;simp +decide only[go_sem, *];repeat'(refine kq ?_;simp +decide only[go_sem, *])
     exact⟨(dk,nk),hi,Zb⟩
    | cons k0 K=> 
     rw[ae oh]at Q5;replace Q5:Kp _:=⟨Q5⟩;have Ga:decide ((0:Int)<((K.length+1:Nat):Int))=true:=ay oa;simp +decide only[go_sem, *];repeat'(refine kq ?_;simp +decide only[go_sem, *])
     refine CB (pre:=[_]) 86 Hf ?_;simp +decide only[go_sem, *];refine⟨C.2,rfl,fun h0=>?_,fun h0=>?_⟩
     ·have hi:=Q5.1.1 h0;simp +decide only[go_sem, *];exact⟨(C.1,nk),hi,Zb⟩
     ·have hr:=Q5.1.2 h0;exact Iv _ _ _ _ (by rw[hr]) h0 oe oe oe oe
  ·rintro⟨dk,nk⟩ qf HI;have hr:=HI.res;rw[jh]at hr;have hr:(dk,0)=RR:=hr;subst hr;clear HI Yk hI hO hF hR Y;refine yw (N:=86) qg [3,12,16] ?_;simp only[Dcm.row];simp +decide only[go_sem, *];rw[qdw];simp +decide only[go_sem]
 ·by_cases h0:RR.2=0
  ·rw[ae h0];exact DLe.rfl_ _
  ·rw[j7 h0];have e:RR.1=noDcm:=by rw[<-Yk]at h0 ⊢;exact JS _ _ _ h0
   rw[e];exact DLeT.le (l:=[.agg bY,dv (li RR.2)]) (r:=.tup [.agg noDcm.row,dv (li RR.2)]) ⟨mP,DLe.rfl_ _,trivial⟩
end
section
attribute [local go_sem] vp
def sB:ByteArray:=⟨#[98]⟩
def sA:ByteArray:=⟨#[97]⟩
def sP:ByteArray:=⟨#[112]⟩
def sI:ByteArray:=⟨#[105]⟩
def ent1:Ent:=⟨1,[1,2],1,[],0,[⟨⟨#[100,111,103]⟩,⟨#[]⟩⟩],[],[]⟩
def ent2:Ent:=⟨2,[3,4],2,[],0,[⟨⟨#[80,76]⟩,⟨#[]⟩⟩],[],[]⟩
def lng9:Lg where
 inv:=[⟨sB,2⟩,⟨sA,3⟩,⟨sP,0⟩,⟨sI,11⟩]
 nm:=⟨#[109,97,105,110]⟩
 units:=[⟨sB,[1]⟩,⟨sA,[2]⟩,⟨sP,[3]⟩,⟨sI,[4]⟩]
 letters:=[]
 rules:=[⟨[3],[1],[⟨1,1⟩],[⟨1,1⟩],false,false⟩]
 states:=2
 steps:=[⟨0,1,1⟩,⟨1,2,1⟩]
 fin:=[1]
 lex:=[ent1,ent2]
def docm:Dcm where
 rc:=⟨5,⟨#[116]⟩,1000,1,[1]⟩
 tiers:=[⟨⟨#[116,101,120,116]⟩,0,1,-1⟩,⟨⟨#[119,111,114,100]⟩,2,2,0⟩,⟨⟨#[109,111,114,112,104]⟩,3,3,1⟩,⟨⟨#[103,108,111,115,115]⟩,4,4,2⟩]
 notes:=[⟨1,0,0,0,900,0,⟨#[]⟩⟩,⟨2,1,1,0,400,0,⟨#[98,97,98,105]⟩⟩]
def decs:List Dcs:=[⟨⟨5,2⟩,true,[⟨1,0,0⟩,⟨2,0,0⟩]⟩]
def Vj:DLe (.agg [.ex 2 [[ls sB,li 2],[ls sA,li 3],[ls sP,li 0],[ls sI,li 11]],.c (ls ⟨#[109,97,105,110]⟩),.ex 2 [[ls sB,.sl 1 [[li 1]]],[ls sA,.sl 1 [[li 2]]],[ls sP,.sl 1 [[li 3]]],[ls sI,.sl 1 [[li 4]]]],.ex 1 [],.ex 6 [[.sl 1 [[li 3]],.sl 1 [[li 1]],.sl 2 [[li 1,li 1]],.sl 2 [[li 1,li 1]],lb false,lb false]],.c (li 2),.ex 3 [[li 0,li 1,li 1],[li 1,li 2,li 1]],.ex 1 [[li 1]],
  .ex 8 [ent1.enc,ent2.enc]]) (.agg lng9.row):=eV [.ex 2 [[ls sB,li 2],[ls sA,li 3],[ls sP,li 0],[ls sI,li 11]],.c (ls ⟨#[109,97,105,110]⟩),.ex 2 [[ls sB,.sl 1 [[li 1]]],[ls sA,.sl 1 [[li 2]]],[ls sP,.sl 1 [[li 3]]],[ls sI,.sl 1 [[li 4]]]],.ex 1 [],.ex 6 [[.sl 1 [[li 3]],.sl 1 [[li 1]],.sl 2 [[li 1,li 1]],.sl 2 [[li 1,li 1]],lb false,lb false]],.c (li 2),.ex 3 [[li 0,li 1,li 1],[li 1,li 2,li 1]],.ex 1 [[li 1]],
  .ex 8 [ent1.enc,ent2.enc]]
def qbv:DCalls pP 23 [] (.agg lng9.row):=by refine dX (N:=47) (rs:=[.cell 0 36]) qg func23 ?_;refine gB ?_;exact Vj
def qfO:DCalls pP 22 [] (.tup [.agg docm.row,dv (.sl 4 (decs.map Dcs.enc))]):=by refine dX (N:=28) (rs:=[.cell 0 42,.tmp 1]) qg func22 ?_;refine gS ?_;refine xd ?_;apply Zn (id:=5) (N:=28) [] [[],[],[],[1,2],[3],[0,0],[4,5,0,1,2,3,4,5]] (.thr 0 (.thr 1 (.two 2 (.two 3 (.two 4 (.run [5,6] .leaf) 5 (.run [4,6] .leaf)) 5 (.run [3,4,6] .leaf)) 5 (.run [2,3,4,6] .leaf)) 2 (.two 1 (.two 3 (.two 4 (.run [5,6] .leaf) 5 (.run [4,6] .leaf)) 5 (.run [3,4,6] .leaf)) 5 (.run [1,3,4,6] .leaf)) 5 (.dia 1 2 (.run [3,4,6] .leaf))) 1 (.two 0 (.two 2 (.two 3 (.two 4 (.run [5,6] .leaf) 5 (.run [4,6] .leaf)) 5 (.run [3,4,6] .leaf)) 5 (.run [2,3,4,6] .leaf)) 2 (.two 0 (.two 3 (.two 4 (.run [5,6] .leaf) 5 (.run [4,6] .leaf)) 5 (.run [3,4,6] .leaf)) 3 (.two 0 (.two 4 (.run [5,6] .leaf) 5 (.run [4,6] .leaf)) 4 (.run [0,5,6] .leaf)))) 2 (.two 0 (.two 1 (.two 3 (.two 4 (.run [5,6] .leaf) 5 (.run [4,6] .leaf)) 5 (.run [3,4,6] .leaf)) 5 (.run [1,3,4,6] .leaf)) 1 (.two 0 (.two 3 (.two 4 (.run [5,6] .leaf) 5 (.run [4,6] .leaf)) 5 (.run [3,4,6] .leaf)) 3 (.two 0 (.two 4 (.run [5,6] .leaf) 5 (.run [4,6] .leaf)) 4 (.run [0,5,6] .leaf)))));kernel_rfl;rfl;kernel_rfl;kernel_rfl;refine gS ?_;exact⟨eV _,DLe.ex_ _ _⟩
def FD(s x:Spn):(ir s x).length<=2:=by unfold ir;split<;>split<;>simp
def pY(s:Spn): ∀l:List Spn,(qN l s).length<=2*l.length
 | []=>by simp[qN]
 | x::l=>by have h1:=pY s l;have h2:=FD s x;simp only[qN,jA,wz,wW]at *;omega
def BA(s:Spn){x:Spn}(h:l.take (k+1)=l.take k++[x]):qN (l.take (k+1)) s=qN (l.take k) s++ir s x:=by rw[h,qN,jm];simp[qN]
def Eg(l:List Spn)(s:Spn)(hl:l.length<=100000):DCalls pP 195 [dv (.sl 2 (Q7 l)),.agg s.row] (dv (.sl 2 (Q7 (qN l s)))):=by
 have qi:=qo;refine kd (N:=57) (rs:=[.tmp 4]) func195 ?_
 (repeat(first|apply qk|apply qm|((first|refine qC ?_|apply qt|apply qv);simp +decide only[go_sem,Spn.row])))
 refine sO 5 5 2 [] oe ?_;refine eU l (fun k=>kn 57 [(0,dv (.sl 2 (Q7 l))),(3,.one (.bx 3 2 0 0)),(5,.one (.own 5 2 (Q7 (qN (l.take k) s)))),(6,dv (li k))] (ml [(3,[s.row])])) oa (qw rfl (by simp +decide only[go_sem,wy,qN,ja,wm]) (by simp +decide only[go_sem,Spn.row])) ?_ ?_
 ·intro k x hx hk hm qs qf hw;have vG:=pY s (l.take k);have E7:(l.take k).length<=100000:=og;rw[BA s qs];generalize qN (l.take k) s=p at vG ⊢;obtain⟨L,hL⟩: ∃L:Spn,L=⟨x.fr,min x.tg s.fr⟩:=⟨_,rfl⟩;obtain⟨R,hR⟩: ∃R:Spn,R=⟨max x.fr s.tg,x.tg⟩:=⟨_,rfl⟩;have hc:ir s x=(if qV L=true then [L]else [])++(if qV R=true then [R]else []):=by rw[hL,hR];rfl
  have qbX:=bR L;have VI:=bR R;simp only[Spn.row]at qbX VI
  (repeat' first|(first|refine qC ?_|apply kU);simp only[go_sem,qf,Spn.row]|apply kh<;>intro qe)
  refine pF (fun _:Unit=>kn 57 [(0,dv (.sl 2 (Q7 l))),(3,.one (.bx 3 2 0 0)),(5,.one (.own 5 2 (Q7 p))),(6,dv (li k)),(7,.one (.bx 7 2 0 0))] (ml [(3,[s.row]),(7,[L.row])])) (fun _=>True) ?_ ?_
  ·refine RQ (id:=5) (N:=57) [] [[],[],[0,1],[2],[3],[],[],[5,6],[7],[8],[],[10],[9,11],[4,12],[],[14,13,0,1,2,3,4,5,6,7,8,9,10,11,12,13,14]] [0,1,5,6,10] [(1123,2),(1123,7),(1123,11),(1123,14),(1127,3),(1127,7),(1127,11),(1127,14),(1251,2),(1251,8),(1251,11),(1251,14),(3171,2),(3171,7),(3171,14),(17507,2),(17507,7),(17507,11),(1135,4),(1135,7),(1135,11),(1135,14),(1255,3),(1255,8),(1255,11),(1255,14),(3175,3),(3175,7),(3175,14),(17511,3),(17511,7),(17511,11),(1507,2),(1507,9),(1507,11),(1507,14),(3299,2),(3299,8),(3299,14),(17635,2),(17635,8),(17635,11),(19555,2),(19555,7),(1151,7),(1151,11),(1151,14),(1263,4),(1263,8),(1263,11),(1263,14),(3183,4),(3183,7),(3183,14),(17519,4),(17519,7),(17519,11),(1511,3),(1511,9),(1511,11),(1511,14),(3303,3),(3303,8),(3303,14),(17639,3),(17639,8),(17639,11),(19559,3),(19559,7),(2019,2),(2019,11),(2019,14),(3555,2),(3555,9),(3555,14),(17891,2),(17891,9),(17891,11),(19683,2),(19683,8),(1279,8),(1279,11),(1279,14),(3199,7),(3199,14),(17535,7),(17535,11),(1519,4),(1519,9),(1519,11),(1519,14),(3311,4),(3311,8),(3311,14),(17647,4),(17647,8),(17647,11),(19567,4),(19567,7),(2023,3),(2023,11),(2023,14),(3559,3),(3559,9),(3559,14),(17895,3),(17895,9),(17895,11),(19687,3),(19687,8),(4067,2),(4067,12),(4067,14),(18403,2),(18403,11),(19939,2),(19939,9),(1535,9),(1535,11),(1535,14),(3327,8),(3327,14),(17663,8),(17663,11),(19583,7),(2031,4),(2031,11),(2031,14),(3567,4),(3567,9),(3567,14),(17903,4),(17903,9),(17903,11),(19695,4),(19695,8),(4071,3),(4071,12),(4071,14),(18407,3),(18407,11),(19943,3),(19943,9),(8163,2),(8163,14),(20451,2),(20451,12),(2047,11),(2047,14),(3583,9),(3583,14),(17919,9),(17919,11),(19711,8),(4079,4),(4079,12),(4079,14),(18415,4),(18415,11),(19951,4),(19951,9),(8167,3),(8167,14),(20455,3),(20455,12),(24547,2),(4095,12),(4095,14),(18431,11),(19967,9),(8175,4),(8175,14),(20463,4),(20463,12),(24551,3),(8191,13),(8191,14),(20479,12),(24559,4),(16383,14),(24575,13),(32767,15)] [[1127,1251,3171,17507],[1135,1255,3175,17511,1507,3299,17635,19555],[1151,1263,3183,17519,1511,3303,17639,19559,2019,3555,17891,19683],[1279,3199,17535,1519,3311,17647,19567,2023,3559,17895,19687,4067,18403,19939],[1535,3327,17663,19583,2031,3567,17903,19695,4071,18407,19943,8163,20451],[2047,3583,17919,19711,4079,18415,19951,8167,20455,24547],[4095,18431,19967,8175,20463,24551],[8191,20479,24559],[16383,24575],[32767],[65535]] (Xj 57 [(0,dv (.sl 2 (Q7 l))),(3,.one (.bx 3 2 0 0)),(5,.one (.own 5 2 (Q7 p))),(6,dv (li k)),(16,dv (.sl 2 (Q7 l))),(17,dv (li k)),(21,dv (.sl 2 (Q7 l))),(22,dv (li k)),(26,.one (.bx 3 2 0 0))] [(4,0,18,dv (.pt x.enc)),(8,0,19,dv (.pt x.enc)),(16,0,20,dv (li x.fr)),(128,0,23,dv (.pt x.enc)),(256,0,24,dv (.pt [li x.tg])),(512,0,25,dv (li x.tg)),(2048,0,27,dv (li s.fr)),(4096,0,28,dv (li (if s.fr<x.tg then s.fr else x.tg))),(8192,0,29,.agg [.c (li x.fr),.c (li (if s.fr<x.tg then s.fr else x.tg))]),(16384,0,7,.one (.bx 7 2 0 0))] [(0,0,3,[s.row]),(16384,32768,7,[[.c (li 0),.c (li 0)]]),(32768,0,7,[[.c (li x.fr),.c (li (if s.fr<x.tg then s.fr else x.tg))]])]) 65535 om rfl om om (fun m=>rfl) ?_ ?_ ?_
   ·simp +decide only[go_sem,Xj,bD,jK,jO,wD,wI,Spn.row];exact Zb
   ·simp +decide only[go_sem,Xj,jK,jO,wD,wI,hx,wO,yO,Spn.row,Spn.enc]
    (repeat' apply And.intro)
    all_goals exact Zb
   ·simp +decide only[go_sem,Xj,jK,jO,wD,wI];exact⟨(),km (by simp +decide only[go_sem,hL,Spn.row,I8])⟩
  rintro _ _;apply qk;refine pF (fun _:Unit=>kn 57 [(0,dv (.sl 2 (Q7 l))),(3,.one (.bx 3 2 0 0)),(5,.one (.own 5 2 (Q7 p))),(6,dv (li k)),(7,.one (.bx 7 2 0 0)),(8,.one (.bx 8 2 0 0))] (ml [(3,[s.row]),(7,[L.row]),(8,[R.row])])) (fun _=>True) ?_ ?_
  ·refine RQ (id:=6) (N:=57) [] [[],[],[0,1],[2],[3],[],[5],[4,6],[],[],[8,9],[10],[11],[7,12],[],[14,13,0,1,2,3,4,5,6,7,8,9,10,11,12,13,14]] [0,1,5,8,9] [(803,2),(803,6),(803,10),(803,14),(807,3),(807,6),(807,10),(807,14),(867,2),(867,10),(867,14),(1827,2),(1827,6),(1827,11),(1827,14),(17187,2),(17187,6),(17187,10),(815,4),(815,6),(815,10),(815,14),(871,3),(871,10),(871,14),(1831,3),(1831,6),(1831,11),(1831,14),(17191,3),(17191,6),(17191,10),(1891,2),(1891,11),(1891,14),(17251,2),(17251,10),(3875,2),(3875,6),(3875,12),(3875,14),(18211,2),(18211,6),(18211,11),(831,6),(831,10),(831,14),(879,4),(879,10),(879,14),(1839,4),(1839,6),(1839,11),(1839,14),(17199,4),(17199,6),(17199,10),(1895,3),(1895,11),(1895,14),(17255,3),(17255,10),(3879,3),(3879,6),(3879,12),(3879,14),(18215,3),(18215,6),(18215,11),(3939,2),(3939,12),(3939,14),(18275,2),(18275,11),(7971,2),(7971,6),(7971,14),(20259,2),(20259,6),(20259,12),(895,7),(895,10),(895,14),(1855,6),(1855,11),(1855,14),(17215,6),(17215,10),(1903,4),(1903,11),(1903,14),(17263,4),(17263,10),(3887,4),(3887,6),(3887,12),(3887,14),(18223,4),(18223,6),(18223,11),(3943,3),(3943,12),(3943,14),(18279,3),(18279,11),(7975,3),(7975,6),(7975,14),(20263,3),(20263,6),(20263,12),(8035,2),(8035,14),(20323,2),(20323,12),(24355,2),(24355,6),(1023,10),(1023,14),(1919,7),(1919,11),(1919,14),(17279,7),(17279,10),(3903,6),(3903,12),(3903,14),(18239,6),(18239,11),(3951,4),(3951,12),(3951,14),(18287,4),(18287,11),(7983,4),(7983,6),(7983,14),(20271,4),(20271,6),(20271,12),(8039,3),(8039,14),(20327,3),(20327,12),(24359,3),(24359,6),(24419,2),(2047,11),(2047,14),(17407,10),(3967,7),(3967,12),(3967,14),(18303,7),(18303,11),(7999,6),(7999,14),(20287,6),(20287,12),(8047,4),(8047,14),(20335,4),(20335,12),(24367,4),(24367,6),(24423,3),(4095,12),(4095,14),(18431,11),(8063,7),(8063,14),(20351,7),(20351,12),(24383,6),(24431,4),(8191,13),(8191,14),(20479,12),(24447,7),(16383,14),(24575,13),(32767,15)] [[807,867,1827,17187],[815,871,1831,17191,1891,17251,3875,18211],[831,879,1839,17199,1895,17255,3879,18215,3939,18275,7971,20259],[895,1855,17215,1903,17263,3887,18223,3943,18279,7975,20263,8035,20323,24355],[1023,1919,17279,3903,18239,3951,18287,7983,20271,8039,20327,24359,24419],[2047,17407,3967,18303,7999,20287,8047,20335,24367,24423],[4095,18431,8063,20351,24383,24431],[8191,20479,24447],[16383,24575],[32767],[65535]] (Xj 57 [(0,dv (.sl 2 (Q7 l))),(3,.one (.bx 3 2 0 0)),(5,.one (.own 5 2 (Q7 p))),(6,dv (li k)),(7,.one (.bx 7 2 0 0)),(30,dv (.sl 2 (Q7 l))),(31,dv (li k)),(38,dv (.sl 2 (Q7 l))),(39,dv (li k)),(35,.one (.bx 3 2 0 1))] [(4,0,32,dv (.pt x.enc)),(8,0,33,dv (.pt x.enc)),(16,0,34,dv (li x.fr)),(1024,0,40,dv (.pt x.enc)),(2048,0,41,dv (.pt [li x.tg])),(4096,0,42,dv (li x.tg)),(64,0,36,dv (li s.tg)),(128,0,37,dv (li (if x.fr<s.tg then s.tg else x.fr))),(8192,0,43,.agg [.c (li (if x.fr<s.tg then s.tg else x.fr)),.c (li x.tg)]),(16384,0,8,.one (.bx 8 2 0 0))] [(0,0,3,[s.row]),(0,0,7,[L.row]),(16384,32768,8,[[.c (li 0),.c (li 0)]]),(32768,0,8,[[.c (li (if x.fr<s.tg then s.tg else x.fr)),.c (li x.tg)]])]) 65535 om rfl om om (fun m=>rfl) ?_ ?_ ?_
   ·simp +decide only[go_sem,Xj,bD,jK,jO,wD,wI,Spn.row];exact Zb
   ·simp +decide only[go_sem,Xj,jK,jO,wD,wI,hx,wO,yO,Spn.row,Spn.enc]
    (repeat' apply And.intro)
    all_goals exact Zb
   ·simp +decide only[go_sem,Xj,jK,jO,wD,wI];exact⟨(),km (by simp +decide only[go_sem,hR,Spn.row,I9])⟩
  rintro _ _;rw[hc];cases h1:qV L
  ·rw[h1]at qbX;cases h2:qV R
   ·rw[h2]at VI
    (repeat' first|(first|refine qC ?_|refine kx qbX ?_|refine kx VI ?_|apply kU);simp only[go_sem,hw,Spn.row]|apply kh<;>intro qe)
    exact Zb
   ·rw[h2]at VI;have cq:((p.length+1)*16<=140737488355328)=True:=og
    (repeat' first|(first|refine qC ?_|refine kx qbX ?_|refine kx VI ?_|apply kU);simp +decide only[go_sem,hw,cq,Spn.row]|apply kh<;>intro qe|((first|apply qy|apply qx)<;>(intro qe;simp +decide only[go_sem,qe,qf,hw,hx,h1,h2,cq,Spn.row])))
    exact qw rfl (by simp +decide only[go_sem,yt,wo,wm,Spn.enc]) oe
  ·rw[h1]at qbX;have cq:((p.length+1)*16<=140737488355328)=True:=og;cases h2:qV R
   ·rw[h2]at VI
    (repeat' first|(first|refine qC ?_|refine kx qbX ?_|refine kx VI ?_|apply kU);simp +decide only[go_sem,hw,cq,Spn.row]|apply kh<;>intro qe|((first|apply qy|apply qx)<;>(intro qe;simp +decide only[go_sem,qe,qf,hw,hx,h1,h2,cq,Spn.row])))
    exact qw rfl (by simp +decide only[go_sem,yt,wo,wm,Spn.enc]) oe
   ·rw[h2]at VI;have fz:((Q7 p++[[li L.fr,li L.tg]]).length+1)*16<=140737488355328:=og
    (repeat' first|(first|refine qC ?_|refine kx qbX ?_|refine kx VI ?_|apply kU);simp +decide only[go_sem,hw,cq,aB fz,Spn.row]|apply kh<;>intro qe|((first|apply qy|apply qx)<;>(intro qe;simp +decide only[go_sem,qe,qf,hw,hx,h1,h2,cq,aB fz,Spn.row])))
    exact qw rfl (by simp +decide only[go_sem,wS,wD,wI,yt,wo,wm,Spn.enc]) oe
 ·intro qf;rw[wc]
  (repeat' first|(first|refine qC ?_|apply kU);simp only[go_sem,qf]|apply kh<;>intro qe)
  refine ze 4 _ (DLe.own_ _ _ _) ?_;apply qb;simp +decide only[go_sem]
def mN: ∀(l:List Spn) (p:List Spn×List Spn×Spn),aG l->aG p.1->aG p.2.1->qV p.2.2=true->(∀b∈p.1,b.tg<p.2.2.fr)->(∀a∈p.2.1,p.2.2.tg<a.fr)->(∀b∈p.1,∀x∈l,b.tg<x.fr)->(∀a∈p.2.1,∀x∈l,a.tg<x.fr)->
  aG ((l.foldl zF p).1++(l.foldl zF p).2.2::(l.foldl zF p).2.1)
 | [],(B,A,s),_,hB,hA,hs,h1,h2,_,_=>by
  have hs':=rightS_iff.1 hs;simp only at hB hA h1 h2 hs';refine⟨fun z hz=>?_,?_⟩
  ·simp only[yj,wF,wJ]at hz;rcases hz with hz|rfl|hz
   ·exact hB.1 z hz
   ·exact hs
   ·exact hA.1 z hz
  ·simp only[yj];refine y9.2 ⟨hB.2,yy.2 ⟨h2,hA.2⟩,fun b hb z hz=>?_⟩;rcases wJ.1 hz with rfl|hz
   ·grind
   ·grind
 | x::l,(B,A,s),hl,hB,hA,hs,h1,h2,h3,h4=>by
  have hs':=rightS_iff.1 hs;have hx':=rightS_iff.1 (hl.1 x oh);obtain⟨X6,lY⟩:=yy.1 hl.2;have hl':aG l:=⟨fun z hz=>hl.1 z (by simp[hz]),lY⟩;simp only at hB hA h1 h2 h3 h4 hs';simp only[yE];have snoc: ∀(L:List Spn),aG L->(∀b∈L,b.tg<x.fr)->aG (L++[x]):=fun L hL hb=>⟨fun z hz=>by
    rcases wF.1 hz with hz|hz
    ·exact hL.1 z hz
    ·rw[yp.1 hz];exact hl.1 x oh,y9.2 ⟨hL.2,oh,fun b hb' z hz=>by rw[yp.1 hz];exact hb b hb'⟩⟩
  by_cases c1:x.tg<s.fr
  ·have e:zF (B,A,s) x=(B++[x],A,s):=by unfold zF;rw[ae c1]
   rw[e];refine mN l _ hl' (snoc B hB fun b hb=>h3 b hb x oh) hA hs (fun b hb=>?_) h2 (fun b hb z hz=>?_) (fun a ha z hz=>h4 a ha z (by simp[hz]))
   ·grind
   ·grind
  ·by_cases c2:x.fr>s.tg
   ·have e:zF (B,A,s) x=(B,A++[x],s):=by unfold zF;rw[j7 c1,ae c2]
    rw[e];refine mN l _ hl' hB (snoc A hA fun a ha=>h4 a ha x oh) hs h1 (fun a ha=>?_) (fun b hb z hz=>h3 b hb z (by simp[hz])) (fun a ha z hz=>?_)
    ·grind
    ·grind
   ·have e:zF (B,A,s) x=(B,A,⟨min s.fr x.fr,max s.tg x.tg⟩):=by unfold zF;rw[j7 c1,j7 c2]
    rw[e];refine mN l _ hl' hB hA (rightS_iff.2 ⟨oz,oz,oz⟩) (fun b hb=>?_) (fun a ha=>?_) (fun b hb z hz=>h3 b hb z (by simp[hz])) (fun a ha z hz=>h4 a ha z (by simp[hz]))
    ·grind
    ·have:=h2 a ha;have:=h4 a ha x oh;have:=rightS_iff.1 (hA.1 a ha);simp only;omega
def KW(hl:aG l)(hs:qV s=true):aG (uz l s):=
 mN l ([],[],s) hl ⟨oh,List.Pairwise.nil⟩ ⟨oh,List.Pairwise.nil⟩ hs oh oh oh oh
def rD: ∀(l out:List Spn),(∀s∈l,qV s=true)->aG out->aG (l.foldl uz out)
 | [],_,_,h=>h
 | x::l,out,h1,h2=>rD l _ (fun s hs=>h1 s (by simp[hs])) (KW h2 (h1 x oh))
def EA(l:List Spn):aG (fD l):=rD _ [] (fun s hs=>(yR.1 hs).2) ⟨oh,List.Pairwise.nil⟩
def CJ{x y:Spn}(hy:y∈ir s x):qV y=true/\x.fr<=y.fr/\y.tg<=x.tg:=by
 unfold ir at hy;rcases wF.1 hy with h|h
 ·grind
 ·grind
def Wm(hs:qV s=true)(x:Spn):(ir s x).Pairwise (fun a b=>a.tg<b.fr):=by have:=rightS_iff.1 hs;unfold ir;split<;>split<;>simp;omega
def mL{s:Spn}(hs:qV s=true): ∀{l:List Spn},aG l->aG (qN l s)
 | [],_=>⟨by simp[qN],by simp[qN]⟩
 | x::l,h=>by
  obtain⟨X6,lY⟩:=yy.1 h.2;have ih:=mL hs (l:=l) ⟨fun z hz=>h.1 z (by simp[hz]),lY⟩;have e:qN (x::l) s=ir s x++qN l s:=by simp[qN]
  rw[e];refine⟨fun z hz=>?_,y9.2 ⟨Wm hs x,ih.2,fun a ha b hb=>?_⟩⟩
  ·rcases wF.1 hz with hz|hz
   ·exact(CJ hz).1
   ·exact ih.1 z hz
  ·obtain⟨y,hy,hb'⟩:=List.mem_flatMap.1 hb;have h1:=CJ ha;have h2:=CJ hb';have:=X6 y hy;omega
def s9{s:Spn}: ∀{l:List Spn},(∀y∈l,s.fr<=y.fr)->(qN l s).length<=l.length
 | [],_=>by simp[qN]
 | x::l,h=>by
  have ih:=s9 (s:=s) (l:=l) (fun y hy=>h y (by simp[hy]));have e:qN (x::l) s=ir s x++qN l s:=by simp[qN]
  have hx:=h x oh;have:(ir s x).length<=1:=by
   unfold ir;have: ¬qV ⟨x.fr,min x.tg s.fr⟩=true:=fun hr=>by have:=rightS_iff.1 hr;simp only at this;omega
   rw[j7 this];split<;>simp
  rw[e,wz,wW];omega
def pZ{s:Spn}(hs:qV s=true): ∀{l:List Spn},aG l->(qN l s).length<=l.length+1
 | [],_=>by simp[qN]
 | x::l,h=>by
  obtain⟨X6,lY⟩:=yy.1 h.2;have hl:aG l:=⟨fun z hz=>h.1 z (by simp[hz]),lY⟩;have ih:=pZ hs hl;have e:qN (x::l) s=ir s x++qN l s:=by simp[qN]
  rw[e,wz,wW];by_cases hc:(ir s x).length<=1
  ·omega
  ·have h2:=FD s x;have hr:qV ⟨max x.fr s.tg,x.tg⟩=true:=by
    by_cases hr:qV ⟨max x.fr s.tg,x.tg⟩=true
    ·exact hr
    ·exfalso;apply hc;unfold ir;rw[j7 hr];split<;>simp
   have:=rightS_iff.1 hr;have:=rightS_iff.1 hs;have:=s9 (s:=s) (l:=l) fun y hy=>by have:=X6 y hy;simp only at *;omega
   omega
def AQ: ∀(b out:List Spn),(∀s∈b,qV s=true)->aG out->aG (b.foldl qN out)/\(b.foldl qN out).length<=out.length+b.length
 | [],out,_,h=>⟨h,oh⟩
 | x::b,out,h1,h=>by have hx:=h1 x oh;obtain⟨g1,g2⟩:=AQ b (qN out x) (fun s hs=>h1 s (by simp[hs])) (mL hx h);have:=pZ hx h;exact⟨g1,by simp only[yE,wW];omega⟩
def KA(a b:List Spn)(ha:a.length<=10000)(lJ:b.length<=10000):DCalls pP 149 [dv (.sl 2 (Q7 a)),dv (.sl 2 (Q7 b))] (dv (.sl 2 (Q7 (Hk a b)))):=by
 have qi:=qo;have hU:=Kx a ha;refine kd (N:=27) (rs:=[.tmp 4]) func149 ?_;refine vB qg ?_;refine eU b (fun k=>kn 27 [(1,dv (.sl 2 (Q7 b))),(5,dv (.sl 2 (Q7 (((b.take k).filter qV).foldl qN (fD a))))),(6,dv (li k))] qA) oa (vU rfl (by simp +decide only[go_sem,wy,jJ,yj]) (by simp[qA])) ?_ ?_
 ·intro k x hx hk hm qs qf hw;obtain⟨p,hp⟩: ∃p,p=((b.take k).filter qV).foldl qN (fD a):=⟨_,rfl⟩;have vG:p.length<=100000:=by have h1:=(AQ ((b.take k).filter qV) (fD a) (fun s hs=>(yR.1 hs).2) (EA a)).2;have h2:=yN qV (b.take k);have h3:=Gt a;rw[hp];simp at h2;omega
  have hr:=bR x;have hi:=Eg p x vG;rw[gn qV qs,yZ,<-hp];simp only[Spn.row]at hr hi;cases h1:qV x
  ·rw[h1]at hr
   (repeat' first|(first|refine qC ?_|refine kx hr ?_|refine kx hi ?_|apply kU);simp only[go_sem,qf,hw,hx,Spn.enc]|apply kh<;>intro qe)
   exact vU rfl (by simp +decide only[go_sem,yj]) (by simp[qA])
  ·rw[h1]at hr
   (repeat' first|(first|refine qC ?_|refine kx hr ?_|refine kx hi ?_|apply kU);simp only[go_sem,qf,hw,hx,Spn.enc]|apply kh<;>intro qe)
   exact vU rfl (by simp +decide only[go_sem,yj,yE]) (by simp[qA])
 ·intro qf;rw[wc];refine wB qg ?_;rfl
def GW(l:List Spn)(s:Spn)(hl:l.length<=10000):DCalls pP 90 [dv (.sl 2 (Q7 l)),.agg s.row] (dv (lb (ib l s))):=by
 have hr:=bR s;have hm:=KA [s] l oh hl;simp only[Spn.row,wo,wm,Spn.enc]at hr hm;refine kd (N:=15) (rs:=[.tmp 4]) func90 ?_;cases h1:qV s
 ·rw[h1]at hr
  (repeat' first|(first|refine qC ?_|refine kx hr ?_|refine kx hm ?_|apply kU|apply qb);simp only[go_sem,Spn.row]|apply kh<;>intro qe)
  simp[ib,h1]
 ·rw[h1]at hr
  (repeat' first|(first|refine qC ?_|refine kx hr ?_|refine kx hm ?_|apply kU|apply qb);simp +decide only[go_sem,Spn.row]|apply kh<;>intro qe|((first|apply qy|apply qx)<;>(intro qe;simp +decide only[go_sem,qe,Spn.row,h1])))
  unfold ib;rw[h1,jb];cases Hk [s] l<;>simp<;>omega
attribute [local go_sem] vp Tir.enc Nte.enc Nte.span Spn.enc Dcm.row Nte.row Spn.row
def Kz(d:Dcm)(n:Nte)(t:Tir)(h0:0<=n.tier)(ht:d.tiers[n.tier.toNat]? =some t)(hl:d.notes.length<=10000):DCalls pP 85 [.agg d.row,.agg n.row] (dv (li (bM d n t))):=by
 have qi:=qo;have hA:=tR t.kind;have hR:=bR n.span;have hG:=Ek d n.par oa;have hz: ∀a b:Int,(a==0&&b==0)=decide (a=0/\b=0):=og;unfold bM;generalize qI d.notes n.par=pp at*
 obtain⟨p,ok⟩:=pp;generalize qV n.span=r at*
 generalize bC t.kind=al at*
 simp only[Dcm.row,Nte.row,Spn.row,Nte.span]at hG hR;refine dX (N:=117) (rs:=[.tmp 4]) qg func85 ?_;repeat' first|refine gQ ?_|exact gU|refine gS ?_|exact gT|(first|apply xc|apply gf|apply gt)<;>intro hc
 all_goals exact cC og
attribute [local go_sem] vp Tir.enc Nte.enc Nte.span Spn.enc Dcm.row Nte.row Spn.row
abbrev UQ:Dl.PL:=fun|4=> Dl.ll 0 14 []|_=>[]
def UC(d:Dcm)(i:Nat)(n:Nte)(hi:d.notes[i]? =some n)(hl:d.notes.length<=10000)(qdS:d.tiers.length<=10000):DCalls pP 42 [.agg d.row,dv (li i)] (dv (li (cR d i n))):=by
 have qi:=qo;have E9:=(wg.1 hi).1;have hT:=IT n.txt;have hw:0<i->aD .i64 ((i:Int) - 1)=((i - 1:Nat):Int):=fun h=>by rw[wrap_i64 oa oa];omega
 have hq:cR d i n=if n.id<1\/1099511627776<n.id then 2 else if 0<i/\n.id<=((d.notes[i - 1]?).getD fi).id then 10 else if n.tier<0\/(d.tiers.length:Int)<=n.tier then 2 else if Qh n.txt≠0 then Qh n.txt else bM d n (dn d.tiers n.tier):=rfl
 generalize Qh n.txt=tx at*
 obtain⟨m,hm⟩: ∃m,d.notes[i - 1]? =some m:=⟨_,wa oa⟩;rw[hm,yJ]at hq;have hn0: ¬(i:Int)<0:=oa;have h0:decide ((0:Int)<(i:Int))=decide (0<i):=oh;by_cases hr:0<=n.tier/\n.tier<d.tiers.length
 ·obtain⟨t,ht⟩: ∃t,d.tiers[n.tier.toNat]? =some t:=⟨_,wa oa⟩;have hd:dn d.tiers n.tier=t:=by unfold dn QJ;rw[ae hr.1,ht];rfl
  have hP:=Kz d n t hr.1 ht hl;rw[hd]at hq;generalize bM d n t=pe at*
  simp only[Dcm.row,Nte.row]at hP;clear hd ht hl qdS;cases i with
  | zero=>
   refine dX (N:=54) (rs:=[.tmp 4]) UQ func42 ?_;repeat' first|refine gQ ?_|exact gU|refine gS ?_|exact gT|(first|apply xc|apply gf|apply gt)<;>intro hc
   all_goals exact cC og
  | succ j=>
   have hw:=hw oa;rw[show j+1 - 1=j by omega]at*
   refine dX (N:=54) (rs:=[.tmp 4]) UQ func42 ?_;repeat' first|refine gQ ?_|exact gU|refine gS ?_|exact gT|(first|apply xc|apply gf|apply gt)<;>intro hc
   all_goals exact cC og
 ·cases i with
  | zero=>
   refine dX (N:=54) (rs:=[.tmp 4]) UQ func42 ?_;repeat' first|refine gQ ?_|exact gU|refine gS ?_|exact gT|(first|apply xc|apply gf|apply gt)<;>intro hc
   all_goals first|exact cC og|(exfalso;grind)
  | succ j=>
   have hw:=hw oa;rw[show j+1 - 1=j by omega]at*
   refine dX (N:=54) (rs:=[.tmp 4]) UQ func42 ?_;repeat' first|refine gQ ?_|exact gU|refine gS ?_|exact gT|(first|apply xc|apply gf|apply gt)<;>intro hc
   all_goals first|exact cC og|(exfalso;grind)
attribute [local go_sem] vp Tir.enc Nte.enc Nte.span Spn.enc Dcm.row Nte.row Spn.row
abbrev qgF:Dl.PL:=fun|12=> Dl.ll 0 7 ((7,.step)::Dl.ll 8 2 [])|_=>[]
def qaP(d:Dcm)(i:Nat)(t:Tir)(ht:d.tiers[i]? =some t)(hl:d.notes.length<=10000):DCalls pP 43 [.agg d.row,dv (li i)] (dv (li (tu d i))):=by
 have qi:=qo;have hd:dn d.tiers (i:Int)=t:=by unfold dn;rw[gI ht];rfl
 have hA:=tR t.kind;have he:tu d i=rT d i t.kind d.notes 0:=by unfold tu;rw[hd]
 rw[he];clear he hd;refine dX (N:=77) (rs:=[.tmp 4]) qgF func43 ?_;refine gk ?_;refine S7 d.notes [1,2,5] [2] (fun k y=>[(6,dv (li y)),(7,dv (li k))]) (fun _ _=>[]) (fun k y=>rT d i t.kind d.notes 0=rT d i t.kind (d.notes.drop k) y) 0 rfl ?_ ?_
 ·intro k n y hn hk hm _ qf hw hi;have hs:d.notes.drop k=n::d.notes.drop (k+1):=by obtain⟨h1,h2⟩:=wg.1 hn;rw[<-h2];exact wP h1
  rw[hs]at hi;simp only[rT]at hi;generalize rT d i t.kind d.notes 0=r0 at*
  by_cases h1:n.tier=i
  ·rw[j7 (by simpa using h1)]at hi;have hS:=Ux d i n.par hl;have dB:(vV d i n.par).length<=d.notes.length:=yN ..;have hO:=qaS (vV d i n.par) oa;have hG:=Ek d n.par oa;have hP:=GR (vV d i n.par) oa;have hR:=qaQ (vV d i n.par) oa;have hC:=GW ((vV d i n.par).map Nte.span) (qI d.notes n.par).1.span (by rw[wn];omega);have hE:rV d n t.kind y=if t.kind=4/\1<(vV d i n.par).length then 8 else if t.kind=3/\D6 (vV d i n.par)=false then 10 else if t.kind=1/\ib ((vV d i n.par).map Nte.span) (qI d.notes n.par).1.span=false then 16 else y:=by unfold rV R3;rw[h1]
   rw[h1]at hi;generalize ib ((vV d i n.par).map Nte.span) (qI d.notes n.par).1.span=cv at*
   generalize D6 (vV d i n.par)=rk at*
   generalize G9 (vV d i n.par)=ov at*
   generalize vV d i n.par=sb at*
   generalize (qI d.notes n.par)=gp at*
   generalize bC t.kind=al at*
   generalize vO:rT d i t.kind (d.notes.drop (k+1))=F at*
   generalize rV d n t.kind y=se at*
   obtain⟨p,ok⟩:=gp;simp only[Dcm.row,Nte.row,Spn.row,Nte.span]at hS hG hC hP;have h1b:(n.tier==(i:Int))=true:=og;clear hs ht hm hk dB;repeat' first|refine gQ ?_|exact gU|refine gS ?_|exact gT|(first|apply xc|apply gf|apply gt)<;>intro hc
   all_goals clear hS hO hG hP hR hC hA
   all_goals first|(exfalso;grind)|exact cC og|exact⟨8,og,ks⟩|exact⟨10,og,ks⟩|exact⟨16,og,ks⟩|exact⟨y,og,ks⟩|skip
  ·rw[ae h1]at hi;have h1b:(n.tier==(i:Int))=false:=og;clear hs ht hm hk;refine gB ?_;exact⟨y,rfl,ks⟩
 ·intro y qf hi;rw[jh]at hi;rw[hi];refine gB ?_;exact cC rfl
attribute [local go_sem] vp Dcm.row
def qcO{α:Type}{l:List α}{x:α}(h:l[k]? =some x):l.drop k=x::l.drop (k+1):=by obtain⟨h1,h2⟩:=wg.1 h;rw[<-h2];exact wP h1
def DA{d:Dcm}: ∀{f i:Nat},bp d f i=if 0<f then(if tu d i≠0 then tu d i else bp d (f - 1) (i+1))else 0
 | 0,_=>rfl
 | f+1,i=>by rw[ae oa];rfl
def Ow(d:Dcm)(hl:d.tiers.length<=1000000)(hs: ∀t∈d.tiers,t.name.size<=1048576):DCalls pP 13 [.agg d.row] (dv (li (gx d))):=by
 have qi:=qo;have hT:=qaO d.tiers hl hs;generalize ht:mf d.tiers=e at hT;have hq:gx d=if e≠0 then e else if d.rc.len<0\/86400000<d.rc.len then 12 else if 300<d.notes.length then 11
  else if ZM d d.notes 0≠0 then ZM d d.notes 0 else bp d d.tiers.length 0:=by unfold gx;rw[ht]
 by_cases h0:e=0/\0<=d.rc.len/\d.rc.len<=86400000/\d.notes.length<=300;rotate_left
 ·clear hs hl;refine dX (N:=54) (rs:=[.tmp 2]) qg func13 ?_;repeat' first|refine gQ ?_|exact gU|refine gS ?_|exact gT|(first|apply xc|apply gf|apply gt)<;>intro hc
  all_goals first|exact cC og|(exfalso;grind)
 obtain⟨rfl,h1,h2,h3⟩:=h0;have h4:d.tiers.length<=12:=by unfold mf at ht;split at ht<;>omega
 have n1: ¬d.rc.len<0:=oa;have n2: ¬86400000<d.rc.len:=oa;have n3: ¬(300:Int)<(d.notes.length:Int):=oa;rw[j7 oo,j7 oa,j7 oa]at hq;refine dX (N:=54) (rs:=[.tmp 2]) qg func13 ?_;refine gk ?_;refine lp d.notes [1] [1] (fun k=>[(4,dv (li k))]) (fun _=>[]) (fun k=>ZM d d.notes 0=ZM d (d.notes.drop k) k) rfl ?_ ?_
 ·intro k n hk bw hm qs qf hw hv;have hN:=UC d k n hk oa oa;have vO:ZM d (d.notes.drop k) k=if cR d k n≠0 then cR d k n else ZM d (d.notes.drop (k+1)) (k+1):=by rw[qcO hk];rfl
  rw[vO]at hv;generalize cR d k n=en at*
  clear hk qs vO hT hm;refine gC ?_ ?_<;>intro hc
  ·exact cC og
  ·exact⟨og,ks⟩
 intro qf hv;rw[jh]at hv;rw[show ZM d [] d.notes.length=0 from rfl]at hv;rw[hv,j7 oo]at hq;clear hT;refine gB ?_;refine lp d.tiers [1] [1] (fun k=>[(6,dv (li k))]) (fun _=>[]) (fun k=>bp d d.tiers.length 0=bp d (d.tiers.length - k) k) rfl ?_ ?_
 ·intro k t hk bw hm qs qf hw hv;have hN:=qaP d k t hk oa;rw[DA (f:=d.tiers.length - k),ae oa,show d.tiers.length - k - 1=d.tiers.length - (k+1) by omega]at hv;generalize tu d k=en at*
  clear hk qs hm;refine gC ?_ ?_<;>intro hc
  ·exact cC og
  ·exact⟨og,ks⟩
 intro qf hv;rw[Nat.sub_self,show bp d 0 d.tiers.length=0 from rfl]at hv;exact gA
def GU(d:Dcm)(hl:d.tiers.length<=1000000)(hs: ∀t∈d.tiers,t.name.size<=1048576):NCalls pP 4 [.agg d.row] (fun r=>∃b,r=dv (lb b)/\(b=true->d.notes.length<=14/\d.tiers.length<=6/\gx d=0)):=by
 have qi:=qo;have hC:=Ow d hl hs;generalize gx d=e at*
 refine nX (N:=25) (rs:=[.tmp 2]) qg func4 ?_;repeat' first|refine gQ ?_|exact gU|refine gS ?_|exact gT|(first|apply xc|apply gf|apply gt)<;>intro hc
 all_goals exact⟨_,rfl,og⟩
end
abbrev pJ:List Nte->Nte->Prop:=fun l p=>R3 l p=true
abbrev J5:ByteArray->Prop:=fun s=>Qh s=0
def qab(h:gx d=0)(hr:QM (qh d)=true):TrsA d.tiers (qh d):=by
 have h0:mf d.tiers=0:=by unfold gx at h;grind
 unfold QM qh at hr;simp only[we,aj]at hr;exact qaa h0 hr.1.1 hr.1.2 hr.2
def Rm{d:Dcm}(h:gx d=0)(hn:d.notes.length<=14)(hr:QM (qh d)=true):GoodD pJ J5 d where
 nts:=nts_iff.1 (by unfold gx at h;grind)
 trs:=qab h hr
 few:=fun t q=>by unfold vV;exact wu (yN ..) hn
 notes:=oa
 tiers:=by
  have h0:mf d.tiers=0:=by unfold gx at h;grind
  unfold mf at h0;have: ¬12<d.tiers.length:=og;omega
 txt:=fun n hn=>tq ((nts_iff.1 (show _/\_ by unfold gx at h;grind)).note n hn).1
def MY{w:List Int}(h:vM g w=0): ∀n∈w,1<=n/\n<=(g.length:Int):=by unfold vM at h;have h1:(w.any fun n=> !a7 g n)=false:=og;intro n hn;have:=yY.1 h1 n hn;simpa[a7]using this
section
variable {g:Lg} (h:LgtG g) (m:MidG g)
include h m
theorem LgtG.szG:SzG g where
 inv:=wu h.inv oo
 units:=wu h.units oo
 unit:=fun u hu=>⟨m.graph u hu,m.segs u hu⟩
 rules:=m.rules
 rule:=fun r hr=>⟨(m.src r hr).1,(m.src r hr).2.2.1,(m.src r hr).2.2.2⟩
 dst:=h.dst
 steps:=m.steps
 fin:=m.fin
 lex:=wu h.lex oo
 ents:=fun e he=>⟨wu (h.words e he).2.1 oo,wu (h.words e he).1 oo,fun w hw=>wu ((h.words e he).2.2 w hw) oo⟩
 sens:=fun e he=>wu (h.right.each e he).few oo
theorem LgtG.srL:SrL g where
 sz:=h.szG m
 step:=fun x hx=>⟨(h.step x hx).1,(h.step x hx).2.2.1⟩
 fins:=fun q hq=>(h.fins q hq).1
 lex:=h.lex
 two:=fun e he=>by have:=(h.words e he).2.1;simp[QR];omega
 form:=fun e he x hx=>by
  refine⟨?_,fun n hn=>?_⟩
  ·rcases wJ.1 hx with rfl|hx
   ·exact(h.words e he).1
   ·exact(h.words e he).2.2 x hx
  ·have hw:vM g.inv x=0:=by
    rcases wJ.1 hx with rfl|hx
    ·exact(h.right.each e he).form
    ·exact(h.right.each e he).alts x hx
   have:=MY hw n hn;have:=h.inv;omega
theorem LgtG.spG:SpG g where
 sz:=h.szG m
 ok:=⟨fun u hu e=>by have:=(h.unit u hu).2.1;rw[e]at this;simp at this,fun u hu e=>by have:=(h.unit u hu).1;simp only[vm,we]at this;have hz:=BO u.graph;rw[e]at hz;simp_all⟩
 units:=wu h.units oo
omit m in
theorem LgtG.lgT:LgT g where
 graph:=fun u hu=>by have:=(h.unit u hu).1;unfold aF;simp only[vm,we]at this ⊢;simp_all
 gloss:=fun e he s hs=>by have:=(h.right.each e he).gls s hs;unfold Zu at this;simp only[we]at this;exact this.1
end
section
attribute [local go_sem] vp Prt.enc Prt.row Dcs.enc Dcs.row strs Zf
def KG(a b:Prt):DCalls pP 110 [.agg a.row,.agg b.row] (dv (lb (if a.ent≠b.ent then decide (a.ent<b.ent)else if a.alt≠b.alt then decide (a.alt<b.alt)else decide (a.sns<b.sns)))):=by
 refine dX (N:=30) (rs:=[.tmp 4]) qg func110 ?_;repeat' first|refine gQ ?_|exact gU|refine gS ?_|exact gT|(first|apply xc|apply gf|apply gt)<;>intro hc
 all_goals exact iq og
abbrev qgC:Dl.PL:=fun|4=> Dl.ll 0 11 []|5=> Dl.ll 0 10 [(10,.step),(11,.light)]|_=>[]
def UD(a b:List Prt)(ha:a.length<=1048576)(hb:b.length<=1048576):NCalls pP 55 [.agg [.c (Zf a)],.agg [.c (Zf b)]] (bn True):=by
 have qi:=qo;refine nX (N:=49) (rs:=[.tmp 4]) qgC func55 ?_;refine gk ?_;refine Pd (min a.length b.length) [2,3] [2,3] (fun k=>[(5,dv (li k))]) (fun _=>[]) (fun _=>True) trivial ?_ ?_
 ·intro k hk _ hw _;obtain⟨x,hx⟩: ∃x,a[k]? =some x:=⟨_,wa oa⟩;obtain⟨y,hy⟩: ∃y,b[k]? =some y:=⟨_,wa oa⟩;have h1:decide ((k:Int)<(a.length:Int))=true:=og;have h2:decide ((k:Int)<(b.length:Int))=true:=og;have hB:=KG x y;refine gB ?_;intro hc;all_goals exact gJ
 intro _ _;by_cases h:a.length<b.length
 ·have e:min a.length b.length=a.length:=by omega
  have h1:decide ((a.length:Int)<(a.length:Int))=false:=oh;rw[e];exact gA
 ·have e:min a.length b.length=b.length:=by omega
  have h1:decide ((b.length:Int)<(b.length:Int))=false:=oh;rw[e];exact gA
def KB(a b:Dcs)(ha:a.pick.length<=1048576)(hb:b.pick.length<=1048576):NCalls pP 21 [.agg a.row,.agg b.row] (bn True):=by have hL:=UD a.pick b.pick ha hb;refine nX (N:=38) (rs:=[.tmp 4]) qg func21 ?_;exact gA
abbrev pl6:Dl.PL:=fun|11=> Dl.ll 0 9 ((9,.step)::Dl.ll 10 2 [])|16=> Dl.ll 0 19 []|_=>[]
def qaU(l:List Dcs)(hl:l.length<=1048576)(hp: ∀d∈l,d.pick.length<=1048576):NCalls pP 6 [dv (.sl 4 (l.map Dcs.enc))] (zJ (∀d∈l,0<d.pick.length/\d.pick.length<=4)):=by
 have qi:=qo;refine nX (N:=74) (rs:=[.tmp 2]) pl6 func6 ?_;refine gk ?_;refine lp l [0,7] [] (fun k=>[(8,dv (li k))]) (fun _=>[]) (fun k=>∀d∈l.take k,0<d.pick.length/\d.pick.length<=4) oh ?_ ?_
 ·intro k d hd hk hm qs qf hw hi;have hi':(0<d.pick.length/\d.pick.length<=4)->∀d∈l.take (k+1),0<d.pick.length/\d.pick.length<=4:=fun e=>by
   rw[qs];intro y hy;rcases wF.1 hy with hy|hy
   ·grind
   ·grind
  have h1:=bc d.ref.rc;have h2:=bc d.ref.note;clear hi;by_cases Z5:k=0
  ·subst Z5;clear hm qs;have mV:aD .i64 1=1:=oo;repeat' first|refine kx h1 ?_|refine kx h2 ?_|refine gQ ?_|exact gU|refine gS ?_|exact gT|(first|apply xc|apply gf|apply gt)<;>intro hc
   all_goals first|exact qJ|(intro hz;grind)|exact cC og|exact iq og|skip
   refine Pd 0 [0,3,4,7,8] [4] (fun i=>[(5,dv (li i))]) (fun _=>[]) (fun _=>True) trivial ?_ ?_
   ·omega
   intro _ _;repeat' first|refine gQ ?_|exact gU|refine gS ?_|exact gT|(first|apply xc|apply gf|apply gt)<;>intro hc
   exact⟨hi' og,qJ⟩
  obtain⟨j,rfl⟩: ∃j,k=j+1:=⟨k - 1,oa⟩;obtain⟨c,hc⟩: ∃c,l[j]? =some c:=⟨_,wa oa⟩;have hw':aD .i64 (((j+1:Nat):Int) - 1)=(j:Int):=by rw[wrap_i64 oa oa];omega
  have hz:decide ((0:Int)<((j+1:Nat):Int))=true:=oh;have hL:=KB c d (hp c (ww hc)) (hp d hm);clear hm qs;repeat' first|refine kx h1 ?_|refine kx h2 ?_|refine gQ ?_|exact gU|(refine eH ?_<;>intro er eN)|(refine dM ?_<;>intro bo eO)|refine gS ?_|exact gT|(first|apply xc|apply gf|apply gt)<;>intro hc
  all_goals first|exact qJ|(intro hz;grind)|exact cC og|exact iq og|skip
  refine Pd (j+1) [0,3,4,7,8] [4] (fun i=>[(5,dv (li i))]) (fun _=>[]) (fun _=>True) trivial ?_ ?_
  ·intro i hi _ rG _;obtain⟨v,hv⟩: ∃v,l[i]? =some v:=⟨_,wa oa⟩;clear hL h1 h2;repeat' first|refine gQ ?_|exact gU|refine gS ?_|exact gT|(first|apply xc|apply gf|apply gt)<;>intro hc
   all_goals exact gJ
  intro _ _;clear hL h1 h2;repeat' first|refine gQ ?_|exact gU|refine gS ?_|exact gT|(first|apply xc|apply gf|apply gt)<;>intro hc
  exact⟨hi' og,qJ⟩
 intro qf hi;rw[wc]at hi;refine gB ?_;exact fun _=>hi
abbrev qeV:Dl.PL:=fun|6=> Dl.ll 0 9 []|_=>[]
def mE(a b:List ByteArray)(ha:a.length<=1048576)(hb:b.length<=1048576):DCalls pP 25 [dv (.sl 1 (strs a)),dv (.sl 1 (strs b))] (dv (lb (decide (a=b)))):=by
 have qi:=qo;by_cases h:a.length=b.length;rotate_left
 ·have h1:((a.length:Int)==(b.length:Int))=false:=by grind
  rw[au fun e=>h (by rw[e])];refine dX (N:=26) (rs:=[.tmp 4]) qeV func25 ?_;exact gA
 have h1:((a.length:Int)==(b.length:Int))=true:=og;refine dX (N:=26) (rs:=[.tmp 4]) qeV func25 ?_;refine gk ?_;refine lp a [0,1] [] (fun k=>[(5,dv (li k))]) (fun _=>[]) (fun k=>a.take k=b.take k) rfl ?_ ?_
 ·intro k x hx hk hm qs qf hw hi;obtain⟨y,hy⟩: ∃y,b[k]? =some y:=⟨_,wa oa⟩;have hi':(x==y)=true->a.take (k+1)=b.take (k+1):=fun e=>by rw[yV,yV,hi,hx,hy,(ZX _ _).1 e]
  have hn:(x==y)=false->decide (a=b)=false:=fun e=>au fun h=>by rw[h,hy]at hx;injection hx with hx;subst hx;rw[(ZX _ _).2 rfl]at e;cases e
  have h2:decide ((k:Int)<(b.length:Int))=true:=og;clear hi hm qs h;refine gC ?_ ?_<;>intro hc
  ·exact iq (hn og)
  ·exact⟨hi' og,qJ⟩
 intro qf hi;rw[wc,h,wc]at hi;obtain rfl:=hi;clear h;rw[ay rfl];exact gA
def QL{d:Dcm}(h:GoodD pJ J5 d){g:Lg}(HT:LgT g)(l:List Dcs)(rc nx:Int)(h0:(QI (fc g l rc) (qh d) (Za d (qh d).w) d nx).2=0):
  GoodD pJ J5 (QI (fc g l rc) (qh d) (Za d (qh d).w) d nx).1/\Stay (qh d) (Za d (qh d).w) d (QI (fc g l rc) (qh d) (Za d (qh d).w) d nx).1:=by
 obtain⟨a1,a2,_,a4,a5⟩:=lS (ts:=d.tiers) (fun d' e=>e▸h.trs) (nY HT l rc) (Za d (qh d).w) d nx rfl h.nts (fun w hw=>by obtain⟨n,h1,rfl,h3⟩:=uk hw;rw[isWord_iff,zH h.nts.up h1];exact⟨rfl,h3⟩) (bf h.nts ..) h.notes h.few h0
 have ht:=a2.trs;refine⟨⟨a1,?_,a5,a4,by rw[ht];exact h.tiers,fun n hn=>tq (a1.note n hn).1⟩,a2⟩;have e:qh (QI (fc g l rc) (qh d) (Za d (qh d).w) d nx).1=qh d:=af (fun ts=>(⟨vA ts 2,vA ts 3,vA ts 4⟩:Plc)) ht;rw[e,ht];exact h.trs
def hng9:Lg:={ lng9 with lex:=[ent1] }
def run1:Dcm×Int:=QI (fc lng9 decs 5) (qh docm) (Za docm (qh docm).w) docm 100
def run2:Dcm×Int:=QI (fc hng9 decs 5) (qh run1.1) (Za run1.1 (qh run1.1).w) run1.1 200
def run3:Dcm×Int:=QI (fc lng9 decs 5) (qh run2.1) (Za run2.1 (qh run2.1).w) run2.1 300
def run1_ok:run1.2=0/\run1.1.notes.length=6/\run1.1.rc.id=5:=by decide +kernel
def run2_ok:run2.2=0/\run2.1.notes.length=2/\run2.1.rc.id=5:=by decide +kernel
def run3_ok:run3.2=0/\run3.1.notes.length=6/\vk run3.1 (qh run3.1) 2=([⟨#[98,97]⟩,⟨#[112,105]⟩],[⟨#[100,111,103]⟩,⟨#[80,76]⟩]):=by decide +kernel
def Bk:GoodD pJ J5 docm:=Rm (by decide +kernel) oo (by decide +kernel)
def Yx:v8 lng9.lex 2=([ent1],0):=by have h1:ZB lng9.lex 2=true:=oo;have h2:(zQ lng9.lex 2).any (dm 2)=false:=oo;unfold v8;rw[h1,h2];rfl
def Jd{l:List Ent}(h1:l.Pairwise fun a b=>a.id<b.id)(h2:(l.all fun e=>vM g e.form==0&&(e.alts.all fun w=>vM g w==0)&&decide (e.senses.length<=5)&&(e.senses.all fun s=>Zu s.gloss)&&decide (e.links.length<=12))=true):LexN g l:=
 ⟨h1,fun e he=>by have:=wZ.1 h2 e he;simp only[we,wZ,aj,aq]at this;exact⟨this.1.1.1.1,this.1.1.1.2,this.1.1.2,this.1.2,this.2⟩⟩
def lng9_lgt:LgtG lng9 where
 inv:=oo
 units:=oo
 rules:=oo
 states:=oo
 steps:=oo
 fin:=oo
 lex:=oo
 words:=oo
 src:=oo
 dst:=oo
 unit:=by decide +kernel
 step:=oo
 fins:=oo
 right:=Jd (by decide +kernel) (by decide +kernel)
def hng9_lgt:LgtG hng9 where
 inv:=oo
 units:=oo
 rules:=oo
 states:=oo
 steps:=oo
 fin:=oo
 lex:=oo
 words:=oo
 src:=oo
 dst:=oo
 unit:=by decide +kernel
 step:=oo
 fins:=oo
 right:=Jd (by decide +kernel) (by decide +kernel)
end
def tX{d':Dcm}(h:d'.tiers=d.tiers):qh d'=qh d:=af (fun ts=>(⟨vA ts 2,vA ts 3,vA ts 4⟩:Plc)) h
def T5(g:Lg)(r:Rf)(s:ByteArray)(l:List Dcs):(vI g r s l).ref=r:=by
 unfold vI;split
 ·grind
 ·grind
def qeC{cov:List Nte->Nte->Prop}{tx:ByteArray->Prop}{α:Type}{S Sh:Svc α}{p:Plc}{d x y:Dcm}{nx ny:Int}(Yg:LinOk S tx)(Yh:LinOk Sh tx)(T0: ∀d':Dcm,d'.tiers=d.tiers->TrsA d'.tiers p)(H:NtsA cov tx d)(hl:d.notes.length<=300)(hs:SP d)(hx:QI S p (Za d p.w) d nx=(x,0))(hy:QI Sh p (Za x p.w) x ny=(y,0)):
  (NtsA cov tx y/\y.tiers=d.tiers/\y.rc=d.rc/\y.notes.length<=300/\Za y p.w=Za d p.w)/\
  (∀w∈Za d p.w,vK y p w=true/\qu y.notes w=qu d.notes w/\ZZ Sh p y w):=by
 have T:=T0 d rfl;have qf:=T.lt;have word: ∀{d:Dcm},NtsA cov tx d->∀w∈Za d p.w,vK d p w=true:=fun H w hw=>by obtain⟨n,h1,rfl,h3⟩:=uk hw;rw[isWord_iff,zH H.up h1];exact⟨rfl,h3⟩
 have a:=lS T0 Yg (Za d p.w) d nx rfl H (word H) (bf H ..) hl hs (by rw[hx]);rw[hx]at a;obtain⟨a1,a2,a3,a4,a5⟩:=a;have tx':x.tiers=d.tiers:=a2.trs;have ox:Za x p.w=Za d p.w:=mJ a2 T _ _ oa;have b:=lS T0 Yh (Za x p.w) x ny tx' a1 (word a1) (bf a1 ..) a4 a5 (by rw[hy]);rw[hy]at b;obtain⟨b1,b2,b3,b4,b5⟩:=b;have ty':y.tiers=d.tiers:=b2.trs.trans tx';have oy:Za y p.w=Za d p.w:=(mJ b2 (T0 x tx') _ _ oa).trans ox;have txt: ∀{d d':Dcm} {V:List Int} {w:Int},Stay p V d d'->vK d p w=true->qu d'.notes w=qu d.notes w:=fun h hw=>by obtain⟨h1,h2⟩:=isWord_iff.1 hw;unfold qu;rw[h.get _ h1 oa]
 refine⟨⟨b1,ty',b2.rc.trans a2.rc,b4,oy⟩,fun w hw=>?_⟩
 ·grind
def qfq{d x y:Dcm}{g h:Lg}{l:List Dcs}(hc:gx d=0)(H:GoodD pJ J5 d)(Hg:LgT g)(Hh:LgT h)
  (hx:QI (fc g l d.rc.id) (qh d) (Za d (qh d).w) d 1000000=(x,0)) (hy:QI (fc h l x.rc.id) (qh x) (Za x (qh x).w) x 2000000=(y,0)):
  (gx y=0/\(Za y (qh y).w).filter (nR h l y)= [])/\(∀t∈bE h l d,decide (0<(vk y (qh y) t.ref.note).1.length)=decide (t.kind=4)):=by
 have Gx:=QL H Hg l d.rc.id 1000000 (by rw[hx]);rw[hx]at Gx;have px:=tX Gx.2.trs;have rx:=Gx.2.rc;have Gy:=QL Gx.1 Hh l x.rc.id 2000000 (by rw[hy]);rw[hy]at Gy;have py:=(tX Gy.2.trs).trans px;have ry:=Gy.2.rc.trans rx;rw[px,rx]at hy;have Yh:=nY Hh l d.rc.id;obtain⟨⟨r1,r2,r3,r4,r5⟩,r6⟩:=qeC (nY Hg l d.rc.id) Yh (fun d' e=>e▸H.trs) H.nts H.notes H.few hx hy;have lF: ¬(d.rc.len<0\/86400000<d.rc.len):=by unfold gx at hc;grind
 have htr:mf d.tiers=0:=by unfold gx at hc;grind
 have word: ∀w∈Za d (qh d).w,((vI h ⟨d.rc.id,w⟩ (qu d.notes w) l).kind=4->Qx (fc h l d.rc.id) y (qh d) w (vI h ⟨d.rc.id,w⟩ (qu d.notes w) l).pick=true)/\((vI h ⟨d.rc.id,w⟩ (qu d.notes w) l).kind≠4->y.kids w (qh d).m= []):=fun w hw=>by
  obtain⟨_,h2,h3⟩:=r6 w hw;unfold ZZ at h3;rw[h2]at h3;change (if(vI h ⟨d.rc.id,w⟩ (qu d.notes w) l).kind=4 then Qx (fc h l d.rc.id) y (qh d) w (vI h ⟨d.rc.id,w⟩ (qu d.notes w) l).pick=true else y.kids w (qh d).m= [])at h3;constructor
  ·grind
  ·grind
 refine⟨⟨?_,?_⟩,fun t ht=>?_⟩
 ·unfold gx;rw[r2,r3,j7 (by simpa using htr),j7 lF,j7 oa];obtain⟨n1,n2⟩:=nts_iff.2 r1;rw[j7 (by simpa using n1),<-r2];exact n2
 ·rw[py,r5,List.filter_eq_nil_iff];intro w hw hb;have MG:=word w hw;obtain⟨_,h2,_⟩:=r6 w hw;unfold nR at hb;rw[py,ry,h2]at hb;simp only[we,jQ,aj,jz]at hb;obtain⟨hk,hb⟩:=hb;by_cases h4:(vI h ⟨d.rc.id,w⟩ (qu d.notes w) l).kind=4
  ·grind
  ·grind
 ·unfold bE at ht;obtain⟨w,hw,rfl⟩:=wN.1 ht;have hw:w∈Za d (qh d).w:=hw;rw[T5,py];have MG:=word w hw;obtain⟨h1,h2,_⟩:=r6 w hw;by_cases h4:(vI h ⟨d.rc.id,w⟩ (qu d.notes w) l).kind=4
  ·have hs:=MG.1 h4;rw[ay h4,aj];unfold Qx at hs;simp only[we,aj]at hs;rw[<-hs.2.1];obtain⟨q1,_,q3,_⟩:=sH Hh hs.1;show 0<(QZ h _).1.length;omega
  ·rw[au h4,az];unfold vk;rw[ae h1];simp only[Qa,MG.2 h4];simp
def qfp{d x y z:Dcm}{g h:Lg}{l:List Dcs}(H:GoodD pJ J5 d)(Hg:LgT g)(Hh:LgT h)
  (hx:QI (fc g l d.rc.id) (qh d) (Za d (qh d).w) d 1000000=(x,0)) (hy:QI (fc h l x.rc.id) (qh x) (Za x (qh x).w) x 2000000=(y,0)) (hz:QI (fc g l y.rc.id) (qh y) (Za y (qh y).w) y 3000000=(z,0)):
  ∀i,vk x (qh x) i=vk z (qh z) i:=by
 have Gx:=QL H Hg l d.rc.id 1000000 (by rw[hx]);rw[hx]at Gx;have px:=tX Gx.2.trs;have rx:=Gx.2.rc;have Gy:=QL Gx.1 Hh l x.rc.id 2000000 (by rw[hy]);rw[hy]at Gy;have py:=(tX Gy.2.trs).trans px;have ry:=Gy.2.rc.trans rx;have Gz:=QL Gy.1 Hg l y.rc.id 3000000 (by rw[hz]);rw[hz]at Gz;have pz:=(tX Gz.2.trs).trans py;rw[px,rx]at hy;rw[py,ry]at hz;obtain⟨_,_,r7⟩:=qgz (nY Hg l d.rc.id) (nY Hh l d.rc.id) (fun d' e=>e▸H.trs) H.nts H.notes H.few hx hy hz;intro i;rw[px,pz];exact r7 i
section
attribute [local go_sem] vp
theorem Xf(k:Nat):(k:Int).tmod 3=((k % 3:Nat):Int):=og
theorem BW(P:Program)(t:j8)(a:Int):pR P .rem t (.one (.c (.lit (.int .u8 a)))) (.one (.c (.lit (.int .u8 3))))=some (.int .u8 (a.tmod 3)):=rfl
def tw{s:DS}{K:DS->Prop}{op:BinOp}{t ty:j8}{y:Operand}{a b:D}(ho:o.op= .binOp op t x y ty)(hx:s.ev x=a)(hy:s.ev y=b)(hv:pR P op t a b=some v)(h:K (s.put o.dst (.one (.c (.lit v))))):Step P o s K:=
 Step.quiet (by rw[ho];simp only[QD,hx,hy,hv];exact h)
def Sl{g:Lg}{Q:Int->Lg->Prop}(k:Nat)(id:Int)(r:Rul)(h0:k % 3=0->NCalls pP 24 [.agg g.row,dv (li id)] (ChgR Q))(h1:k % 3=1->NCalls pP 26 [.agg g.row,dv (li id),.agg r.row] (ChgR Q))
  (h2:k % 3=2->NCalls pP 27 [.agg g.row,dv (li id)] (ChgR Q)):
  NCalls pP 8 [.agg g.row,dv (.lit (.int .u8 (k:Int))),dv (li id),.agg r.row] (ChgR Q):=by
 have ht:=Xf k;have h30:((3:Int)=0)=False:=oh;have hc:k % 3=0\/k % 3=1\/k % 3=2:=oa;simp only[<-qD]at*
 simp only[ZO,Rul.row,wo,wm]at*
 generalize (k:Int)=kk at*
 rcases hc with hc|hc|hc
 ·have hC:=h0 hc;have hv:pR pP .rem 5 (.one (.c (.lit (.int .u8 kk)))) (.one (.c (.lit (.int .u8 3))))=some (.int .u8 0):=by rw[BW,ht,hc];rfl
  clear h0 h1 h2 hc ht h30;refine dq (N:=32) (rs:=[.cell 8 36,.tmp 9]) om func8 rfl rfl rfl oh ?_;refine qk (xw (N:=32) qg ?_);refine gS ?_;refine qk (qk (Q0 om ?_));refine vL [_] ?_;refine gS ?_;refine zq (tw rfl oe oe hv ?_);refine iP ?_;clear hv;simp only[vP];refine xw (N:=32) qg ?_;refine gS ?_;refine MD ?_ hC;rintro _ ⟨e,h,hq,⟨rfl,rfl⟩|⟨he,rfl|rfl⟩⟩
  ·simp only[<-qD];simp only[ZO,wo,wm];refine gB ?_;exact⟨0,h,hq,.inl ⟨rfl,rfl⟩⟩
  ·simp only[zE];refine gB ?_;exact⟨e,h,hq,.inr ⟨he,by first|exact .inl rfl|exact .inr rfl⟩⟩
  ·simp only[zC];refine gB ?_;exact⟨e,h,hq,.inr ⟨he,by first|exact .inl rfl|exact .inr rfl⟩⟩
 ·have hC:=h1 hc;have hv:pR pP .rem 5 (.one (.c (.lit (.int .u8 kk)))) (.one (.c (.lit (.int .u8 3))))=some (.int .u8 1):=by rw[BW,ht,hc];rfl
  clear h0 h1 h2 hc ht h30;refine dq (N:=32) (rs:=[.cell 8 36,.tmp 9]) om func8 rfl rfl rfl oh ?_;refine qk (xw (N:=32) qg ?_);refine gS ?_;refine qk (qk (Q0 om ?_));refine vL [_] ?_;refine gS ?_;refine zq (tw rfl oe oe hv ?_);refine iP ?_;clear hv;simp only[vP];refine xw (N:=32) qg ?_;refine gS ?_;refine MD ?_ hC;rintro _ ⟨e,h,hq,⟨rfl,rfl⟩|⟨he,rfl|rfl⟩⟩
  ·simp only[<-qD];simp only[ZO,wo,wm];refine gB ?_;exact⟨0,h,hq,.inl ⟨rfl,rfl⟩⟩
  ·simp only[zE];refine gB ?_;exact⟨e,h,hq,.inr ⟨he,by first|exact .inl rfl|exact .inr rfl⟩⟩
  ·simp only[zC];refine gB ?_;exact⟨e,h,hq,.inr ⟨he,by first|exact .inl rfl|exact .inr rfl⟩⟩
 ·have hC:=h2 hc;have hv:pR pP .rem 5 (.one (.c (.lit (.int .u8 kk)))) (.one (.c (.lit (.int .u8 3))))=some (.int .u8 2):=by rw[BW,ht,hc];rfl
  clear h0 h1 h2 hc ht h30;refine dq (N:=32) (rs:=[.cell 8 36,.tmp 9]) om func8 rfl rfl rfl oh ?_;refine qk (xw (N:=32) qg ?_);refine gS ?_;refine qk (qk (Q0 om ?_));refine vL [_] ?_;refine gS ?_;refine zq (tw rfl oe oe hv ?_);refine iP ?_;clear hv;simp only[vP];refine xw (N:=32) qg ?_;refine gS ?_;refine xw (N:=32) qg ?_;refine gS ?_;refine MD ?_ hC;rintro _ ⟨e,h,hq,⟨rfl,rfl⟩|⟨he,rfl|rfl⟩⟩
  ·simp only[<-qD];simp only[ZO,wo,wm];refine gB ?_;exact⟨0,h,hq,.inl ⟨rfl,rfl⟩⟩
  ·simp only[zE];refine gB ?_;exact⟨e,h,hq,.inr ⟨he,by first|exact .inl rfl|exact .inr rfl⟩⟩
  ·simp only[zC];refine gB ?_;exact⟨e,h,hq,.inr ⟨he,by first|exact .inl rfl|exact .inr rfl⟩⟩
def Mf{g:Lg}(H:LgtG g)(m:MidG g)(k:Nat)(id:Int)(r:Rul)(hr:SO r)(h1:r.src.length<=1000000)(h2:r.dst.length<=1048576):
  NCalls pP 8 [.agg g.row,dv (.lit (.int .u8 (k:Int))),dv (li id),.agg r.row] (ChgR fun e h=>e=0->MidG h/\(k % 3=0->(Zl g.lex id).2=true)):=by
 have hlex:g.lex.length<=99999:=wu H.lex oo;have lF:g.rules.length<=2:=H.rules;have hd: ∀e∈(v8 g.lex id).1,e∈g.lex:=fun e he=>by
  unfold v8 at he;split at he
  ·cases he
  ·split at he
   ·cases he
   ·exact(yR.1 he).1
 have MN:(v8 g.lex id).1.length<=g.lex.length:=by
  unfold v8;split
  ·simp
  ·split
   ·simp
   ·exact yN ..
 refine Sl k id r (fun hk=>?_) (fun hk=>?_) (fun hk=>?_)
 ·have hS:=(qao (H.surf m (v8 g.lex id).1 MN hd)).mono (S:=fun r=>∃e,r=dv (li e)/\True) (by rintro _ ⟨e,rfl,_⟩;exact⟨e,rfl,trivial⟩);refine(rM (g:=g) id (F:=fun _=>True) H.right.up hlex (fun x hx=>(m.ents x hx).links) hS).mono (ChgR.mono ?_);rintro e h (⟨h1,rfl,rfl⟩|⟨h1,_,rfl⟩) he
  ·omega
  ·refine⟨m.lexed _ MN hd,fun _=>?_⟩;rw[Fh];unfold v8 at h1;split at h1
   ·cases h1
   ·grind
 ·refine(KJ (g:=g) id r oa h1 h2).mono (ChgR.mono ?_);rintro e h ⟨rs,hl,hm,rfl⟩ _;refine⟨m.ruled rs oa (fun x hx=>?_),fun h=>oa⟩;rcases hm x hx with h|rfl
  ·exact m.src x h
  ·exact hr
 ·refine(H0 (g:=g) id oa).mono (ChgR.mono ?_);rintro e h ⟨rs,hl,hm,rfl⟩ _;exact⟨m.ruled rs oa (fun x hx=>m.src x (hm x hx)),fun h=>oa⟩
attribute [local go_sem] vp Nte.row Nte.enc
abbrev qgJ:Dl.PL:=fun|4=> Dl.ll 0 7 ((7,.step)::Dl.ll 8 5 [])|5=> Dl.ll 0 7 ((7,.step)::Dl.ll 8 5 [])|_=>[]
def GD{x z:Dcm}(hx:GlsD x)(hz:GlsD z)(h: ∀i,vk x (qh x) i=vk z (qh z) i):DCalls pP 16 [.agg x.row,.agg z.row] (dv (lb true)):=by
 have qi:=qo;have hX:=fun i=>fK hx i;have hZ:=fun i=>fK hz i;have qb6:=fun i=>iY hx i;have hl:=hx.notes;have hT:=fun i=>mE (vk x (qh x) i).1 (vk x (qh x) i).1 (by have:=(qb6 i).1;omega) (by have:=(qb6 i).1;omega);have hT2:=fun i=>mE (vk x (qh x) i).2 (vk x (qh x) i).2 (by have:=(qb6 i).2;omega) (by have:=(qb6 i).2;omega);simp only[decide_true]at hT hT2;simp only[<-h]at hZ;simp only[Dcm.row]at*
 clear hx hz h qb6;replace hX:Kp _:=⟨hX⟩;replace hZ:Kp _:=⟨hZ⟩;replace hT:Kp _:=⟨hT⟩;replace hT2:Kp _:=⟨hT2⟩;refine dX (N:=49) (rs:=[.tmp 4]) qgJ func16 ?_;refine gB ?_;refine lq x.notes [2,3] [2,3] 5 ?_ ?_
 ·intro k n hn hk hm qs qf hw _;have h1:=hX.1 n.id;have h2:=hZ.1 n.id;have h3:=hT.1 n.id;have h4:=hT2.1 n.id;clear hm qs;generalize vk x (qh x) n.id=S at*
  obtain⟨A,B⟩:=S;simp only at h1 h2 h3 h4;refine gS ?_;refine xk ?_;refine gS ?_;refine kq ?_ h1;refine gS ?_;refine xk ?_;refine gS ?_;refine kq ?_ h2;refine gS ?_;refine kq ?_ h3;refine gS ?_;refine kq ?_ h4;refine gS ?_;exact qJ
 intro qf _;exact gA
attribute [local go_sem] vp strs
def qfl: ∀e∈ [ent1,ent2],MidE e:=fun e he=>by
 simp only[wJ,w9,ax]at he;rcases he with rfl|rfl
 ·exact⟨oo,oo,oo,oo,oo,oo,oo⟩
 ·exact⟨oo,oo,oo,oo,oo,oo,oo⟩
def lng9_mid:MidG lng9 where
 nm:=oo
 inv:=oo
 names:=oo
 units:=oo
 graph:=oo
 segs:=oo
 lets:=oo
 letl:=oo
 lett:=oo
 rules:=oo
 src:=oo
 steps:=oo
 fin:=oo
 lex:=oo
 ents:=qfl
def EX:MidG hng9:=lng9_mid.lexed [ent1] oo oo
def qa1(k:Nat)(p:Phon)(h:hng9.inv[k]? =some p):zG (fun d:Phon=>d.name==p.name) hng9.inv=k:=by
 match k with
 | 0=>injection h with h;subst h;decide
 | 1=>injection h with h;subst h;decide
 | 2=>injection h with h;subst h;decide
 | 3=>injection h with h;subst h;decide
 | k+4=>cases h
def Y7(k:Nat)(u:Unt)(h:hng9.units[k]? =some u): ∀v∈hng9.units.take k,(v.graph==u.graph)=false:=by
 match k with
 | 0=>injection h with h;subst h;decide
 | 1=>injection h with h;subst h;decide
 | 2=>injection h with h;subst h;decide
 | 3=>injection h with h;subst h;decide
 | k+4=>cases h
def qat(k:Nat)(x:Stp)(h:hng9.steps[k]? =some x): ∀y∈hng9.steps.take k,x≠y:=by
 intro y hy e;subst e
 match k with
 | 0=>cases hy
 | 1=>injection h with h;subst h;simp[hng9,lng9]at hy
 | k+2=>cases h
def qeu:A.SurfA hng9 where
 ph:=⟨oo,by decide +kernel,qa1,oo⟩
 ort:=⟨by decide +kernel,oo,by decide +kernel,oo,Y7⟩
 lets:=rfl
 rule:=⟨_,rfl,oo,oo,oo,oo,oo,oo,by decide +kernel,oo,oo⟩
 net:=⟨oo,oo,oo,oo,qat,⟨1,rfl,oo,oo⟩⟩
 ent:=⟨ent1,rfl,⟨oo,oo,rfl,oo,rfl,rfl,⟨_,rfl,by decide +kernel,by decide +kernel,by decide +kernel,rfl⟩⟩⟩
 mid:=⟨oo,oo⟩
 rel:=by decide +kernel
 var:=by decide +kernel
def Yn:GoodD pJ J5 run1.1:=(QL Bk lng9_lgt.lgT decs 5 100 run1_ok.1).1
def Ym:GoodD pJ J5 run2.1:=(QL Yn hng9_lgt.lgT decs 5 200 run2_ok.1).1
def good3:GoodD pJ J5 run3.1:=(QL Ym lng9_lgt.lgT decs 5 300 run3_ok.1).1
theorem xb: ∀d∈decs,d.pick.length<=1000000:=oo
def qg6:DCalls pP 9 [.agg docm.row,.agg lng9.row,dv (.sl 4 (decs.map Dcs.enc)),dv (li 100)] (.tup [.agg run1.1.row,dv (li 0)]):=by have:=FT Bk (lng9_lgt.srL lng9_mid) (lng9_lgt.spG lng9_mid) lng9_lgt.lgT decs 100 oo xb;rw[<-run1_ok.1];exact this
def qg5:DCalls pP 9 [.agg run1.1.row,.agg hng9.row,dv (.sl 4 (decs.map Dcs.enc)),dv (li 200)] (.tup [.agg run2.1.row,dv (li 0)]):=by have:=FT Yn (hng9_lgt.srL EX) (hng9_lgt.spG EX) hng9_lgt.lgT decs 200 oo xb;rw[run1_ok.2.2]at this;rw[<-run2_ok.1];exact this
def qg4:DCalls pP 9 [.agg run2.1.row,.agg lng9.row,dv (.sl 4 (decs.map Dcs.enc)),dv (li 300)] (.tup [.agg run3.1.row,dv (li 0)]):=by have:=FT Ym (lng9_lgt.srL lng9_mid) (lng9_lgt.spG lng9_mid) lng9_lgt.lgT decs 300 oo xb;rw[run2_ok.2.2]at this;rw[<-run3_ok.1];exact this
def qaD:DCalls pP 14 [.agg run3.1.row,dv (li 2)] (.tup [dv (.sl 1 [[ls ⟨#[98,97]⟩],[ls ⟨#[112,105]⟩]]),dv (.sl 1 [[ls ⟨#[100,111,103]⟩],[ls ⟨#[80,76]⟩]])]):=by have:=fK good3.gls 2;rw[run3_ok.2.2]at this;exact this
def Wi:NCalls pP 24 [.agg lng9.row,dv (li 2)] (fun r=>r= .tup [.agg hng9.row,dv (li 0)]):=by
 refine(rM (g:=lng9) 2 (F:=fun e=>e=0) lng9_lgt.right.up oo (fun x hx=>(qfl x hx).links) (by rw[Yx];exact A.surf_A qeu)).mono ?_;rw[Yx];rintro r ⟨e,h,⟨h1,_⟩|⟨_,rfl,rfl⟩,⟨_,rfl⟩|⟨h0,_⟩⟩
 ·omega
 ·omega
 ·rfl
 ·omega
def WN:DCalls pP 7 [] (dv (lb true)):=by
 have hDoc:=qfO;have hLng:=qbv;have a1:=qg6;have a2:=qg5;have a3:=qg4;have hS:=qaD;have hD:=Wi;have l1:=run1_ok.2.1;have l2:=run2_ok.2.1;have l3:=run3_ok.2.1;have t1:=mE [⟨#[98,97]⟩,⟨#[112,105]⟩] [⟨#[98,97]⟩,⟨#[112,105]⟩] oo oo;have t2:=mE [⟨#[100,111,103]⟩,⟨#[80,76]⟩] [⟨#[100,111,103]⟩,⟨#[80,76]⟩] oo oo;rw[ay rfl]at t1 t2;generalize run1.1=d1 at*
 generalize run2.1=d2 at*
 generalize run3.1=d3 at*
 simp only[<-qD,Dcm.row]at*
 simp only[ZO,wo,wm]at*
 replace a2:Kp _:=⟨a2⟩;replace a3:Kp _:=⟨a3⟩;refine NCalls.det (R:=fun r=>r=dv (lb true)) ?_ (fun _ h=>h);refine nX (N:=92) (rs:=[.tmp 0]) qg func7 ?_;simp only[go_sem, *];refine kq ?_ hDoc;simp only[go_sem, *];refine kq ?_ hLng;simp only[go_sem, *];refine kq ?_ a1;simp only[go_sem, *];refine MD ?_ hD;rintro _ rfl;simp only[go_sem, *];refine kq ?_ a2.1;simp only[go_sem, *];refine kq ?_ a3.1;simp only[go_sem, *];refine kq ?_ hS;simp only[go_sem, *];refine kq ?_ t1;simp only[go_sem, *];refine kq ?_ t2;simp only[go_sem, *]
attribute [local go_sem] vp
def RD(s t:Sta)(h1:s.pick.length<=1048576)(h2:t.pick.length<=1048576):DCalls pP 47 [.agg s.row,.agg t.row] (dv (lb (s.ref.rc==t.ref.rc&&s.ref.note==t.ref.note&&s.kind==t.kind&&decide (s.pick=t.pick)))):=by
 have hS:=IK s.pick t.pick h1 h2;simp only[Sta.row];generalize decide (s.pick=t.pick)=b3 at*
 refine dX (N:=24) (rs:=[.tmp 4]) qg func47 ?_;exact gA
def qas(s t:Sta):(s.ref.rc==t.ref.rc&&s.ref.note==t.ref.note&&s.kind==t.kind&&decide (s.pick=t.pick))=decide (s=t):=by
 obtain⟨⟨a,b⟩,c,d⟩:=s;obtain⟨⟨a',b'⟩,c',d'⟩:=t;have hiff:((a==a'&&b==b'&&c==c'&&decide (d=d'))=true)↔((⟨⟨a,b⟩,c,d⟩:Sta)=⟨⟨a',b'⟩,c',d'⟩):=og;by_cases h:(⟨⟨a,b⟩,c,d⟩:Sta)=⟨⟨a',b'⟩,c',d'⟩
 ·grind
 ·grind
attribute [local go_sem] Sta.enc Sta.row
def RF(a b:List Sta)(ha:a.length<=1048576)(hb:b.length<=1048576)(h1: ∀s∈a,s.pick.length<=1048576)(h2: ∀s∈b,s.pick.length<=1048576):DCalls pP 46 [dv (.sl 4 (a.map Sta.enc)),dv (.sl 4 (b.map Sta.enc)),dv (.fn 47 [])] (dv (lb (decide (a=b)))):=by
 have qi:=qo;by_cases h:a.length=b.length;rotate_left
 ·have h1:((a.length:Int)==(b.length:Int))=false:=by grind
  rw[au fun e=>h (by rw[e])];refine dX (N:=32) (rs:=[.tmp 6]) qg func46 ?_;exact gA
 have h3:((a.length:Int)==(b.length:Int))=true:=og;replace h1:Kp _:=⟨h1⟩;replace h2:Kp _:=⟨h2⟩;refine dX (N:=32) (rs:=[.tmp 6]) qg func46 ?_;refine gB ?_;refine lp a [1,2,15,16] [] (fun k=>[(17,dv (li k))]) (fun _=>[]) (fun k=>a.take k=b.take k) rfl ?_ ?_
 ·intro k x hx hk hm qs qf hw hi;obtain⟨y,hy⟩: ∃y,b[k]? =some y:=⟨_,wa oa⟩;have hs:=sN hx hy hi;have hn:=I7 hx hy;have ga:decide ((k:Int)<(b.length:Int))=true:=og;have hE:=RD x y (h1.1 x hm) (h2.1 y (ww hy));rw[qas]at hE;simp only[Sta.row]at hE;clear hi hm qs h;generalize Vz:decide (x=y)=bb at*
  replace Vz:Kp _:=⟨Vz⟩;cases bb
  ·refine gB ?_;exact iq (hn (by simpa using Vz.1))
  ·refine gB ?_;exact⟨hs (by simpa using Vz.1),qJ⟩
 intro qf hi;rw[wc,h,wc]at hi;obtain rfl:=hi;clear h;rw[ay rfl];exact gA
def Us(a b:List Sta)(ha:a.length<=1048576)(hb:b.length<=1048576)(h1: ∀s∈a,s.pick.length<=1048576)(h2: ∀s∈b,s.pick.length<=1048576):DCalls pP 17 [dv (.sl 4 (a.map Sta.enc)),dv (.sl 4 (b.map Sta.enc))] (dv (lb (decide (a=b)))):=by have hE:=RF a b ha hb h1 h2;refine dX (N:=8) (rs:=[.tmp 4]) qg func17 ?_;exact gA
attribute [local go_sem] vp Sta.enc strs
structure LicS(g:Lg)(d:Dcm)(l:List Dcs)(r:Rul):Prop where
 lg:MidG g
 trs:d.tiers.length<=1000000
 nam: ∀t∈d.tiers,t.name.size<=1048576
 len:l.length<=1048576
 pick: ∀x∈l,x.pick.length<=1048576
 rl:SO r
section
variable {P:Program} {ds:List (Option Nat)} {dst:Option Nat} {ty:j8} {pos:String} {aft:Array Edge} {l:List (Dl.Mode×Oper)} {s:DS} {K:DS->Prop}
def YX(h:wk P ds l (s.put dst (s.ev x)) K):wk P ds ((.step,⟨dst,.assign x,ty,pos,aft,none⟩)::l) s K:=by rw[Ao];unfold Qf;exact⟨⟨trivial,trivial⟩,h⟩
def YR(h:wk P ds l (s.put dst (s.ev x)) K):wk P ds ((.step,⟨dst,.move x,ty,pos,aft,none⟩)::l) s K:=by rw[IB];unfold Qf;exact⟨⟨trivial,trivial⟩,h⟩
def YP{x:Operand}{t t':j8}{a z:Int}(hx:s.ev x= .one (.c (.lit (.int .u8 a))))(hv:a.tmod 3=z)(h:wk P ds l (s.put dst (.one (.c (.lit (.int .u8 z))))) K):
  wk P ds ((.step,⟨dst,.binOp .rem t x (.const (.int .u8 3)) t',ty,pos,aft,none⟩)::l) s K:=by
 rw[Dn,hx,show s.ev (.const (.int .u8 3))= .one (.c (.lit (.int .u8 3))) from rfl,BW,hv];unfold Qf;exact⟨⟨trivial,trivial⟩,h⟩
end
def Ut{d:Dcm}(hc:gx d=0)(hn:d.notes.length<=14)(ht:d.tiers.length<=1000000){g:Lg}(H:SrL g)(Hs:SpG g)(HT:LgT g)(l:List Dcs)(nx:Int)(hl:l.length<=1048576)(hp: ∀d∈l,d.pick.length<=1000000):
  ∃x e,DCalls pP 9 [.agg d.row,.agg g.row,dv (.sl 4 (l.map Dcs.enc)),dv (li nx)] (.tup [.agg x.row,dv (li e)])/\(e=0->QM (qh d)=true/\QI (fc g l d.rc.id) (qh d) (Za d (qh d).w) d nx=(x,0)):=by
 by_cases hr:QM (qh d)=true
 ·exact⟨_,_,FT (Rm hc hn hr) H Hs HT l nx hl hp,fun h=>⟨hr,by rw[<-h]⟩⟩
 ·exact⟨_,_,qde d g l nx oa (by simpa using hr),fun h=>by cases h⟩
def DU{d:Dcm}(G:GoodD pJ J5 d){g:Lg}(H:SrL g)(Hs:SpG g)(HT:LgT g)(l:List Dcs)(nx:Int)(hl:l.length<=1048576)(hp: ∀d∈l,d.pick.length<=1000000):
  ∃x e,DCalls pP 9 [.agg d.row,.agg g.row,dv (.sl 4 (l.map Dcs.enc)),dv (li nx)] (.tup [.agg x.row,dv (li e)])/\(e=0->QI (fc g l d.rc.id) (qh d) (Za d (qh d).w) d nx=(x,0)):=
 ⟨_,_,FT G H Hs HT l nx hl hp,fun h=>by rw[<-h]⟩
abbrev qgI:Dl.PL:=fun|17=> Dl.ll 0 7 ((7,.step)::Dl.ll 8 5 [])|_=>[]
def qfn{g:Lg}{d:Dcm}{l:List Dcs}{r:Rul}(H:LicS g d l r)(k:Nat)(id:Int):
  NCalls pP 3 [.agg g.row,.agg d.row,dv (.sl 4 (l.map Dcs.enc)),dv (.lit (.int .u8 (k:Int))),dv (li id),.agg r.row] (fun q=>q=dv (lb true)):=by
 have qi:=qo;have hl:=H.len;have hA:=WN;have hL12:=GU d H.trs H.nam;have hL29:=Ei g H.lg;have hC31:=qaU l H.len H.pick;replace H:Kp _:=⟨H⟩;simp only[<-qD]at*
 simp only[ZO,Dcm.row,Rul.row,wo,wm]at*
 by_cases h8:8<l.length
 ·have e1:decide ((8:Int)<(l.length:Int))=true:=by grind
  refine nX (N:=182) (rs:=[.tmp 12]) qgI func3 ?_;simp -implicitDefEqProofs only[go_sem, *];refine kq ?_ hA;simp -implicitDefEqProofs only[go_sem, *]
 have e1:decide ((8:Int)<(l.length:Int))=false:=og;by_cases h4:4<r.src.length
 ·have e2:decide ((4:Int)<(r.src.length:Int))=true:=by grind
  refine nX (N:=182) (rs:=[.tmp 12]) qgI func3 ?_;simp -implicitDefEqProofs only[go_sem, *];refine kq ?_ hA;simp -implicitDefEqProofs only[go_sem, *]
 have e2:decide ((4:Int)<(r.src.length:Int))=false:=og;refine nX (N:=182) (rs:=[.tmp 12]) qgI func3 ?_;simp -implicitDefEqProofs only[go_sem, *];refine MD ?_ hL12;rintro _ ⟨b,rfl,hb⟩;cases b
 ·simp -implicitDefEqProofs only[go_sem, *];refine kq ?_ hA;simp -implicitDefEqProofs only[go_sem, *]
 replace hb:Kp _:=⟨hb rfl⟩;clear hL12;simp -implicitDefEqProofs only[go_sem, *];refine dM ?_ hL29;intro b hg;cases b
 ·simp -implicitDefEqProofs only[go_sem, *];refine kq ?_ hA;simp -implicitDefEqProofs only[go_sem, *]
 replace hg:Kp _:=⟨hg rfl⟩;clear hL29;simp -implicitDefEqProofs only[go_sem, *];refine eH ?_ hC31;intro e he;by_cases he0:e=0;rotate_left
 ·have Tj:(e==0)=false:=by grind
  simp -implicitDefEqProofs only[go_sem, *];refine kq ?_ hA;simp -implicitDefEqProofs only[go_sem, *]
 subst he0;replace he:Kp _:=⟨he rfl⟩;clear hC31;have hp: ∀x∈l,x.pick.length<=1000000:=fun x hx=>wu (he.1 x hx).2 oo;replace hp:Kp _:=⟨hp⟩;clear he;have qd4:=hg.1.srL H.1.lg;have hPg:=hg.1.spG H.1.lg;have Yj:=hg.1.lgT;replace qd4:Kp _:=⟨qd4⟩;replace hPg:Kp _:=⟨hPg⟩;replace Yj:Kp _:=⟨Yj⟩;have hCh:=Mf hg.1 H.1.lg k id r H.1.rl oa H.1.rl.2.1;obtain⟨x,E1,hX,hX0⟩:=Ut hb.1.2.2 hb.1.1 H.1.trs qd4.1 hPg.1 Yj.1 l 1000000 oa hp.1;replace hX0:Kp _:=⟨hX0⟩;simp only[<-qD]at hCh hX;simp only[ZO,Dcm.row,Rul.row,wo,wm]at hCh hX;simp -implicitDefEqProofs only[go_sem, *];refine MD ?_ hCh;rintro _ ⟨e,h,hq,hr⟩;replace hq:Kp _:=⟨hq⟩;by_cases he:e=0;rotate_left
 ·have Tj:(e==0)=false:=by grind
  rcases hr with⟨h0,_⟩|⟨_,rfl|rfl⟩
  ·omega
  ·simp only[zE];simp -implicitDefEqProofs only[go_sem, *];refine kq ?_ hX;simp -implicitDefEqProofs only[go_sem, *];refine kq ?_ hA;simp -implicitDefEqProofs only[go_sem, *]
  ·simp only[zC];simp -implicitDefEqProofs only[go_sem, *];refine kq ?_ hX;simp -implicitDefEqProofs only[go_sem, *];refine kq ?_ hA;simp -implicitDefEqProofs only[go_sem, *]
 subst he;rcases hr with⟨_,rfl⟩|⟨h0,_⟩;rotate_left
 ·omega
 simp only[<-qD];simp only[ZO,wo,wm];simp -implicitDefEqProofs only[go_sem, *];refine kq ?_ hX;simp -implicitDefEqProofs only[go_sem, *];clear hX hCh;by_cases Tl:E1=0;rotate_left
 ·have Tj:(E1==0)=false:=by grind
  simp -implicitDefEqProofs only[go_sem, *];refine kq ?_ hA;simp -implicitDefEqProofs only[go_sem, *]
 subst Tl;obtain⟨hrd,hX0⟩:=hX0.1 rfl;have hM:=(hq.1 rfl).1;have hL:=Ei h hM;simp only[<-qD]at hL;simp only[ZO,wo,wm]at hL;replace hM:Kp _:=⟨hM⟩;replace hX0:Kp _:=⟨hX0⟩;have Jt:=Rm hb.1.2.2 hb.1.1 hrd;replace Jt:Kp _:=⟨Jt⟩;replace hrd:Kp _:=⟨hrd⟩;simp -implicitDefEqProofs only[go_sem, *];refine dM ?_ hL;intro b hh;cases b
 ·simp -implicitDefEqProofs only[go_sem, *];refine kq ?_ hA;simp -implicitDefEqProofs only[go_sem, *]
 replace hh:Kp _:=⟨hh rfl⟩;clear hL;have Dd:=hh.1.srL hM.1;have hPh:=hh.1.spG hM.1;have qd3:=hh.1.lgT;replace Dd:Kp _:=⟨Dd⟩;replace hPh:Kp _:=⟨hPh⟩;replace qd3:Kp _:=⟨qd3⟩;have VY:=QL Jt.1 Yj.1 l d.rc.id 1000000 (by rw[hX0.1]);rw[hX0.1]at VY;have qdR:x.tiers=d.tiers:=VY.2.trs;have VY:GoodD pJ J5 x:=VY.1;obtain⟨y,E2,hY,Tk⟩:=DU VY Dd.1 hPh.1 qd3.1 l 2000000 oa hp.1;replace VY:Kp _:=⟨VY⟩;replace qdR:Kp _:=⟨qdR⟩;replace Tk:Kp _:=⟨Tk⟩;simp only[<-qD]at hY;simp only[ZO,Dcm.row,Rul.row,wo,wm]at hY;simp -implicitDefEqProofs only[go_sem, *];refine kq ?_ hY;simp -implicitDefEqProofs only[go_sem, *];clear hY;by_cases De:E2=0;rotate_left
 ·have Tj:(E2==0)=false:=by grind
  simp -implicitDefEqProofs only[go_sem, *];refine kq ?_ hA;simp -implicitDefEqProofs only[go_sem, *]
 subst De;have Tk:=Tk.1 rfl;have LQ:=QL VY.1 qd3.1 l x.rc.id 2000000 (by rw[Tk]);rw[Tk]at LQ;have qdP:y.tiers=d.tiers:=LQ.2.trs.trans qdR.1;have LQ:GoodD pJ J5 y:=LQ.1;replace qdP:Kp _:=⟨qdP⟩;replace Tk:Kp _:=⟨Tk⟩;replace LQ:Kp _:=⟨LQ⟩;have hR:=AH qd4.1 l d Jt.1.kids Jt.1.txt oa hp.1;have hU1:=Dv Dd.1 g (bE g l d) l d Jt.1.kids Jt.1.txt oa hp.1;simp only[<-qD]at hR hU1;simp only[ZO,Dcm.enc,Dcm.row,wo,wm]at hR hU1;simp -implicitDefEqProofs only[go_sem, *];refine CallC.sub (s':=kn 182 [(2,dv (.sl 4 (l.map Dcs.enc))),(3,dv (.lit (.int .u8 (k:Int)))),(4,dv (li id)),(6,.one (.bx 6 9 0 0)),(7,.one (.bx 7 7 0 0)),(13,.one (.bx 13 9 0 0)),(15,.one (.bx 15 7 0 0)),(17,.one (.bx 17 7 0 0)),(89,.agg [.c (.sl 2 (g.inv.map Phon.enc)),.c (ls g.nm),.c (.sl 2 (g.units.map Unt.enc)),.c (.sl 1 (g.letters.map Z2)),.c (.sl 6 (g.rules.map Rul.enc)),.c (li g.states),.c (.sl 3 (g.steps.map Stp.enc)),.c (.sl 1 (ints g.fin)),.c (.sl 8 (g.lex.map Ent.enc))]),(91,.one (.ex 7 [[li d.rc.id,ls d.rc.name,li d.rc.len,li d.rc.day,.sl 1 (ints d.rc.sp),.sl 4 (d.tiers.map Tir.enc),.sl 7 (d.notes.map Nte.enc)]])),(92,dv (.sl 4 (l.map Dcs.enc)))] (ml [(6,[[.c (.sl 2 (g.inv.map Phon.enc)),.c (ls g.nm),.c (.sl 2 (g.units.map Unt.enc)),.c (.sl 1 (g.letters.map Z2)),.c (.sl 6 (g.rules.map Rul.enc)),.c (li g.states),.c (.sl 3 (g.steps.map Stp.enc)),.c (.sl 1 (ints g.fin)),.c (.sl 8 (g.lex.map Ent.enc))]]),(7,[[.c (li d.rc.id),.c (ls d.rc.name),.c (li d.rc.len),.c (li d.rc.day),.c (.sl 1 (ints d.rc.sp)),.c (.sl 4 (d.tiers.map Tir.enc)),.c (.sl 7 (d.notes.map Nte.enc))]]),(13,[[.c (.sl 2 (h.inv.map Phon.enc)),.c (ls h.nm),.c (.sl 2 (h.units.map Unt.enc)),.c (.sl 1 (h.letters.map Z2)),.c (.sl 6 (h.rules.map Rul.enc)),.c (li h.states),.c (.sl 3 (h.steps.map Stp.enc)),.c (.sl 1 (ints h.fin)),.c (.sl 8 (h.lex.map Ent.enc))]]),(15,[[.c (li x.rc.id),.c (ls x.rc.name),.c (li x.rc.len),.c (li x.rc.day),.c (.sl 1 (ints x.rc.sp)),.c (.sl 4 (x.tiers.map Tir.enc)),.c (.sl 7 (x.notes.map Nte.enc))]]),(17,[[.c (li y.rc.id),.c (ls y.rc.name),.c (li y.rc.len),.c (li y.rc.day),.c (.sl 1 (ints y.rc.sp)),.c (.sl 4 (y.tiers.map Tir.enc)),.c (.sl 7 (y.notes.map Nte.enc))]])])) (Zb) rfl ?_;clear e1 e2 h8;simp -implicitDefEqProofs only[go_sem, *];refine kq ?_ hR;simp -implicitDefEqProofs only[go_sem, *];refine kq ?_ hU1;clear hR hU1;obtain⟨⟨hcy,hwy⟩,hty⟩:=qfq hb.1.2.2 Jt.1 Yj.1 qd3.1 hX0.1 Tk.1;have hW:=Tu Dd.1 hPh.1 l LQ.1.gls LQ.1.kids oa hp.1;rw[hwy,show S.usort []= [] from by simp[S.usort,S.srt,S.cpt,S.cptF]]at hW;have hC:=Ow y LQ.1.tiers (fun t ht=>H.1.nam t (by rw[<-qdP.1];exact ht));rw[hcy]at hC;simp only[<-qD]at hW;simp only[ZO,Dcm.row,wo,wm]at hW hC;replace hty:Kp _:=⟨hty⟩;clear hwy hcy;simp -implicitDefEqProofs only[go_sem, *];refine kq ?_ hW;simp -implicitDefEqProofs only[go_sem, *];refine kq ?_ hC;simp -implicitDefEqProofs only[go_sem, *];clear hW hC;have hSy:=fun i=>fK LQ.1.gls i;have hSl:=fun i=>iY LQ.1.gls i;simp only[Dcm.row]at hSy;replace hSy:Kp _:=⟨hSy⟩;have A8:(bE h l d).length<=1000000:=by have:=Jt.1.kids.ofs ((qh d).w.toNat+1) (qh d).w;unfold bE;rw[wn];exact this
 obtain⟨xO,hsts⟩: ∃xO,xO=bE h l d:=⟨_,rfl⟩;rw[<-hsts]at hty A8 ⊢;replace hsts:Kp _:=⟨hsts⟩;refine lp xO [2,3,4,6,7,13,15,17,18,19] [6,7,13,15,17] (fun j=>[(20,dv (li j))]) (fun _=>[]) (fun _=>True) trivial ?_ ?_
 ·intro j t hx hj hm qs qf hw _;have h1:=hSy.1 t.ref.note;have h2:=hty.1 t hm;clear hm qs;generalize vk y (qh y) t.ref.note=SS at*
  obtain⟨A,B⟩:=SS;simp only at h1 h2;simp -implicitDefEqProofs only[go_sem, *];refine xk ?_;simp -implicitDefEqProofs only[go_sem, *];refine kq ?_ h1;have Tj:(decide ((0:Int)<(A.length:Int))==(t.kind==4))=true:=og;clear h2;simp -implicitDefEqProofs only[go_sem, *];exact qJ
 intro qf _;obtain⟨z,E3,hZ,hZ0⟩:=DU LQ.1 qd4.1 hPg.1 Yj.1 l 3000000 oa hp.1;replace hZ0:Kp _:=⟨hZ0⟩;have hGt:=Ov g.lex id (wu hg.1.lex oo);have qd2:=Dv qd4.1 h xO l d Jt.1.kids Jt.1.txt oa hp.1;simp only[<-qD]at hZ qd2;simp only[ZO,Dcm.enc,Dcm.row,Ent.row,wo,wm]at hZ qd2 hGt;generalize qdY:(Zl g.lex id).2=fnd at hGt;replace qdY:Kp _:=⟨qdY⟩;generalize (Zl g.lex id).1=en at hGt;simp -implicitDefEqProofs only[go_sem, *];refine kq ?_ hZ;simp -implicitDefEqProofs only[go_sem, *];clear hZ;by_cases hE3:E3=0;rotate_left
 ·have Tj:(E3==0)=false:=by grind
  simp -implicitDefEqProofs only[go_sem, *];refine kq ?_ hA;simp -implicitDefEqProofs only[go_sem, *]
 subst hE3;have uI:=qfp Jt.1 Yj.1 qd3.1 hX0.1 Tk.1 (hZ0.1 rfl);have hGz:=QL LQ.1 Yj.1 l y.rc.id 3000000 (by rw[hZ0.1 rfl]);rw[hZ0.1 rfl]at hGz;have hSw:=GD VY.1.gls (show GoodD pJ J5 z from hGz.1).gls uI;simp only[Dcm.row]at hSw;clear uI hGz;simp -implicitDefEqProofs only[go_sem, *];refine kq ?_ hGt;simp -implicitDefEqProofs only[go_sem, *];refine kq ?_ qd2;refine YX ?_;rw[IA,As,YF,YG];refine⟨rfl,?_⟩;have hSm:=Us (bE g l d) (bE g l d) (by unfold bE;rw[wn];exact wu (Jt.1.kids.ofs ((qh d).w.toNat+1) (qh d).w) oo) (by unfold bE;rw[wn];exact wu (Jt.1.kids.ofs ((qh d).w.toNat+1) (qh d).w) oo)
  (fun t ht=>by unfold bE at ht;obtain⟨w,_,rfl⟩:=wN.1 ht;exact wu (fI hp.1) oo)
  (fun t ht=>by unfold bE at ht;obtain⟨w,_,rfl⟩:=wN.1 ht;exact wu (fI hp.1) oo)
 rw[ay rfl]at hSm;refine YR ?_;refine YP (a:=(k:Int)) (z:=((k % 3:Nat):Int)) oe (Xf k) ?_;clear hGt qd2;by_cases P3:k % 3=0
 ·have hfd:fnd=true:=by rw[<-qdY.1];exact(hq.1 rfl).2 P3
  subst hfd;have z0:(((k % 3:Nat):Int)==0)=true:=og;generalize ((k % 3:Nat):Int)=zz at*
  clear P3;simp -implicitDefEqProofs only[go_sem, *];refine kq ?_ hSw;simp -implicitDefEqProofs only[go_sem, *];refine kq ?_ hSm;simp -implicitDefEqProofs only[go_sem, *];refine kq ?_ hA;simp -implicitDefEqProofs only[go_sem, *]
 ·have z0:(((k % 3:Nat):Int)==0)=false:=by grind
  generalize ((k % 3:Nat):Int)=zz at*
  clear P3;simp -implicitDefEqProofs only[go_sem, *];refine kq ?_ hSw;simp -implicitDefEqProofs only[go_sem, *];refine kq ?_ hSm;simp -implicitDefEqProofs only[go_sem, *];refine kq ?_ hA;simp -implicitDefEqProofs only[go_sem, *]
end
end Go.Proofs.YtobpcppcjdnkmaaGreat
